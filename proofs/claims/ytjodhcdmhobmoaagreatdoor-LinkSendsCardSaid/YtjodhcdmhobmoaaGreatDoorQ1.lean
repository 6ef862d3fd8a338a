/- A part of it. -/
import Derived.Test.YtjodhcdmhobmoaaGreatDoorSUn
import Derived.Laws.BitsAllLaws
import Derived.Test.YtjodhcdmhobmoaaGreatDoorF3
import Derived.Laws.Bits128
set_option linter.unusedVariables false
set_option linter.unusedSimpArgs false
namespace Go.Proofs.YtjodhcdmhobmoaaGreatDoor
open Go Go.Proofs.YtjodhcdmhobmoaaGreatDoor.Le
def Tot {U:CY} {L:Type}:Tr U L->(L->Prop)->Prop
 | .leaf l,Q=>Q l
 | .br c a b,Q=>(c=true->Tot a Q)/\(c=false->Tot b Q)
 | .bind _ o k,Q=>∃x,o=some x/\Tot (k x) Q
 | .chk c a,Q=>c=true/\Tot a Q
 | .fail,_=>False
theorem ZCf {U:CY} {L R:Type} {J:L->Option R} {post:R->Prop}:∀{t:Tr U L},Tot t (fun l=>∃r,J l=some r/\post r)->∃r,t.den J=some r/\post r:=by
 intro t
 induction t with
 | leaf l=>intro h;exact h
 | br c a b iha ihb=>
  intro h
  cases c with
  | true=>exact iha (h.1 rfl)
  | false=>exact ihb (h.2 rfl)
 | bind t o k ih=>
  intro h
  obtain⟨x,hx,h⟩:=h
  obtain⟨r,h1,h2⟩:=ih x h
  exact⟨r,by rw [Tr.den,hx];exact h1,h2⟩
 | chk c a ih=>
  intro h
  obtain⟨r,h1,h2⟩:=ih h.2
  exact⟨r,by rw [Tr.den,h.1];exact h1,h2⟩
 | fail=>intro h;exact h.elim
theorem Tot.mono {U:CY} {L:Type} {Q Q' : L->Prop} (hq:∀l,Q l->Q' l):∀{t:Tr U L},Tot t Q->Tot t Q' :=by
 intro t
 induction t with
 | leaf l=>exact hq l
 | br c a b iha ihb=>exact fun h=>⟨fun e=>iha (h.1 e),fun e=>ihb (h.2 e)⟩
 | bind t o k ih=>exact fun⟨x,hx,h⟩=>⟨x,hx,ih x h⟩
 | chk c a ih=>exact fun h=>⟨h.1,ih h.2⟩
 | fail=>exact fun h=>h
def Lt3 (a b:Nat×Nat×Nat):Prop:=a.1<b.1\/(a.1=b.1/\(a.2.1<b.2.1\/(a.2.1=b.2.1/\a.2.2<b.2.2)))
theorem lt3_wf:WellFounded Lt3:=by
 have key:∀x y z,Acc Lt3 (x,y,z):=by
  intro x
  induction x using Nat.strongRecOn with
  | _ x ihx=>
   intro y
   induction y using Nat.strongRecOn with
   | _ y ihy=>
    intro z
    induction z using Nat.strongRecOn with
    | _ z ihz=>
     refine Acc.intro _ fun q hq=>?_
     obtain⟨q1,q2,q3⟩:=q
     rcases hq with h|⟨h1,h|⟨h2,h⟩⟩
     ·exact ihx q1 h q2 q3
     ·simp only at h1 h
      subst h1
      exact ihy q2 h q3
     ·simp only at h1 h2 h
      subst h1
      subst h2
      exact ihz q3 h
 exact⟨fun⟨x,y,z⟩=>key x y z⟩
theorem Zf0 {a b c d e f:Nat} (h:a<d):Lt3 (a,b,c) (d,e,f):=.inl h
theorem ZeW {a b c e f:Nat} (h:b<e):Lt3 (a,b,c) (a,e,f):=.inr ⟨rfl,.inl h⟩
theorem FW {a b c d e f:Nat}:Lt3 (a,b,c) (d,e,f)↔a<d\/(a=d/\(b<e\/(b=e/\c<f))):=Iff.rfl
theorem BD {U:CY} {P R:Type} {T:P->Tr U (R⊕P)} {post:R->Prop} (I:P->Prop) (μ:P->Nat×Nat×Nat)
  (h:∀p,I p->Tot (T p) (fun l=>match l with | .inl r=>post r | .inr q=>I q/\Lt3 (μ q) (μ p))) (p:P) (hp:I p):∃r,AV T p=some r/\post r:=by
 have key:∀x p,μ p=x->I p->∃r,AV T p=some r/\post r:=by
  intro x
  induction lt3_wf.apply x with
  | intro x _ ih=>
   intro p hx hI
   subst hx
   rw [AZ]
   refine ZCf ((h p hI).mono fun l hl=>?_)
   cases l with
   | inl r=>exact⟨r,rfl,hl⟩
   | inr q=>exact ih _ hl.2 q rfl hl.1
 exact key _ p rfl hp
theorem ZEc {α:Type} {l:List α} {i:Int} {Q:α->Prop} (h:0<=i/\i<(l.length:Int)) (k:∀v,v∈l->Q v):∃v,l[Int.toNat i]? = some v/\Q v:=by
 have hi:i.toNat<l.length:=by omega
 exact⟨l[i.toNat],List.getElem?_eq_getElem hi,k _ (List.getElem_mem hi)⟩
theorem Bv {a:Int} (h : -9223372036854775808<=a) (h' : a<=9223372036854775807):AP a=a:=by
 simp only [AP,IntKind.wrap,IntKind.signed,IntKind.bits]
 simp
 omega
theorem tm_bd (a:Int) (n:Nat) (h:0<n) : -(n:Int)<Int.tmod a n/\Int.tmod a n<n:=by
 have h1:=Int.tmod_lt_of_pos a (show (0:Int)<n by omega)
 have h2:=Int.tmod_lt_of_pos (-a) (show (0:Int)<n by omega)
 rw [Int.neg_tmod] at h2
 omega
theorem Gm {U:CY} {L:Type} {Q:L->Prop} (h:False):Tot (.fail:Tr U L) Q:=h
theorem ET {U:CY} {L:Type} {l:L} {Q:L->Prop} (h:Q l):Tot (.leaf l:Tr U L) Q:=h
theorem Ec {U:CY} {L:Type} {c:Bool} {a b:Tr U L} {Q:L->Prop} (h:c=true->Tot a Q) (k:c=false->Tot b Q):Tot (.br c a b) Q:=⟨h,k⟩
theorem Dn {U:CY} {L:Type} {c:Bool} {a:Tr U L} {Q:L->Prop} (h:c=true) (k:Tot a Q):Tot (.chk c a) Q:=⟨h,k⟩
theorem Aq {U:CY} {L:Type} {t:Nat} {o:Option (U.Ty t)} {k:U.Ty t->Tr U L} {Q:L->Prop} {post:U.Ty t->Prop} (h:∃v,o=some v/\post v) (g:∀v,o=some v->post v->Tot (k v) Q):Tot (.bind t o k) Q:=by
 obtain⟨v,h1,h2⟩:=h
 exact⟨v,h1,g v h1 h2⟩
theorem OE {U:CY} {L:Type} {t:Nat} {l:List (U.Ty t)} {i:Int} {k:U.Ty t->Tr U L} {Q:L->Prop} (h:0<=i/\i<(l.length:Int)) (g:∀v,v∈l->Tot (k v) Q):Tot (.bind t (l[Int.toNat i]?) k) Q:=
 ZEc h g
theorem NJ {U:CY} {L:Type} {t:Nat} {o:Option (U.Ty t)} {a:U.Ty t} {k:U.Ty t->Tr U L} {Q:L->Prop} (h:o=some a) (g:Tot (k a) Q):Tot (.bind t o k) Q:=⟨a,h,g⟩
theorem Cf:lim=140737488355328:=rfl
theorem maxLen_eq:maxLen=9223372036854775807:=rfl
end Go.Proofs.YtjodhcdmhobmoaaGreatDoor
namespace Go.Proofs.YtjodhcdmhobmoaaGreatDoor.Na
open Go
def rep (c:Nat):Nat->Nat
 | 0=>0
 | k+1=>256*rep c k+c
theorem eU (x s c k:Nat) (hs:s<=8) (hc:c<2 ^ (8 - s)):(x / 2 ^ s) &&& rep c (k+1)=256*((x / 256 / 2 ^ s) &&& rep c k)+((x % 256 / 2 ^ s) &&& c):=by
 have hc8:c<2 ^ 8:=Nat.lt_of_lt_of_le hc (Nat.pow_le_pow_right (by omega) (by omega))
 have hb:((x % 256 / 2 ^ s) &&& c)<2 ^ 8:=Nat.lt_of_le_of_lt Nat.and_le_right hc8
 refine Nat.eq_of_testBit_eq fun j=>?_
 rw [show (256:Nat)=2 ^ 8 from rfl] at *
 rw [Nat.testBit_two_pow_mul_add _ hb]
 simp only [rep]
 rw [show (256:Nat)=2 ^ 8 from rfl,Nat.testBit_and,Nat.testBit_two_pow_mul_add _ hc8]
 split
 ·rename_i hj
  rw [Nat.testBit_and,Nat.testBit_div_two_pow,Nat.testBit_div_two_pow,Nat.testBit_mod_two_pow]
  by_cases h:c.testBit j=true
  ·have:j<8 - s:=by
    refine Nat.lt_of_not_le fun hle=>?_
    rw [Nat.testBit_lt_two_pow (Nat.lt_of_lt_of_le hc (Nat.pow_le_pow_right (by omega) hle))] at h
    cases h
   rw [h,show decide (j+s<8)=true by simp;omega]
   simp
  ·simp [h]
 ·rename_i hj
  rw [Nat.testBit_and,Nat.testBit_div_two_pow,Nat.testBit_div_two_pow,Nat.testBit_div_two_pow]
  rw [show j - 8+s+8=j+s by omega]
def s1 (k x:Nat):Nat:=(x / 2 &&& rep 0x55 k)+(x &&& rep 0x55 k)
def s2 (k x:Nat):Nat:=(x / 4 &&& rep 0x33 k)+(x &&& rep 0x33 k)
def s3 (k x:Nat):Nat:=(x / 16+x) &&& rep 0x0f k
theorem Z3n (k x:Nat):s1 (k+1) x=256*s1 k (x / 256)+s1 1 (x % 256):=by
 have h1:=eU x 1 0x55 k (by omega) (by decide)
 have h2:=eU x 0 0x55 k (by omega) (by decide)
 simp only [Nat.pow_zero,Nat.div_one,Nat.pow_one] at h1 h2
 simp only [s1]
 rw [h1,h2,show rep 0x55 1=0x55 from rfl]
 omega
theorem Zeo (k h a:Nat) (ha:a<256):s2 (k+1) (256*h+a)=256*s2 k h+s2 1 a:=by
 have h1:=eU (256*h+a) 2 0x33 k (by omega) (by decide)
 have h2:=eU (256*h+a) 0 0x33 k (by omega) (by decide)
 have e1:(256*h+a) / 256=h:=by omega
 have e2:(256*h+a) % 256=a:=by omega
 rw [e1,e2] at h1 h2
 simp only [Nat.pow_zero,Nat.div_one,show 2 ^ 2=4 from rfl] at h1 h2
 simp only [s2]
 rw [h1,h2,show rep 0x33 1=0x33 from rfl]
 omega
theorem ZDe (k h a:Nat) (ha:a % 16<=4) (ha' : a / 16<=4) (hh:h % 16<=4):s3 (k+1) (256*h+a)=256*s3 k h+s3 1 a:=by
 have h2:=eU ((256*h+a) / 16+(256*h+a)) 0 0x0f k (by omega) (by decide)
 simp only [Nat.pow_zero,Nat.div_one] at h2
 have e1:((256*h+a) / 16+(256*h+a)) / 256=h / 16+h:=by omega
 have e2:((256*h+a) / 16+(256*h+a)) % 256=(h % 16)*16+(a / 16+a):=by omega
 have e3:((h % 16)*16+(a / 16+a)) &&& 15=(a / 16+a) &&& 15:=by
  rw [Nat.and_two_pow_sub_one_eq_mod _ 4,Nat.and_two_pow_sub_one_eq_mod _ 4];omega
 simp only [s3]
 rw [h2,e1,e2,e3,show rep 0x0f 1=0x0f from rfl]
theorem Z4v:∀a<256,s1 1 a<256:=by decide +kernel
theorem Zfi:∀a<256,s2 1 (s1 1 a) % 16<=4/\s2 1 (s1 1 a) / 16<=4/\s2 1 (s1 1 a)<256:=by decide +kernel
def bc:Nat->Nat->Nat
 | 0,_=>0
 | k+1,x=>bc k x+x / 2 ^ k % 2
theorem f3_eq:∀a<256,s3 1 (s2 1 (s1 1 a))=bc 8 a:=by decide +kernel
theorem JC (k x:Nat):bc k x<=k:=by
 induction k with
 | zero=>simp [bc]
 | succ k ih=>simp only [bc];omega
theorem fA (a k x:Nat):bc (a+k) x=bc a x+bc k (x / 2 ^ a):=by
 induction k with
 | zero=>simp [bc]
 | succ k ih=>
  show bc (a+k) x+x / 2 ^ (a+k) % 2=_
  simp only [bc]
  rw [ih,Nat.pow_add,Nat.div_div_eq_div_mul]
  omega
theorem ZeC (a b x:Nat) (h:a<=b):bc a (x % 2 ^ b)=bc a x:=by
 induction a with
 | zero=>rfl
 | succ k ih=>
  simp only [bc]
  rw [ih (by omega)]
  congr 1
  have e:∀y,y / 2 ^ k % 2=(y.testBit k).toNat:=fun y=>by rw [Nat.testBit_eq_decide_div_mod_eq];rcases Nat.mod_two_eq_zero_or_one (y / 2 ^ k) with h|h<;>simp [h]
  rw [e,e,Nat.testBit_mod_two_pow]
  simp [show k<b by omega]
theorem Ze4 (k:Nat):bc k 0=0:=by
 induction k with
 | zero=>rfl
 | succ k ih=>simp [bc,ih]
def pb:Nat->Nat->Nat
 | 0,_=>0
 | k+1,x=>256*pb k (x / 256)+bc 8 (x % 256)
theorem swar (k x:Nat):s3 k (s2 k (s1 k x))=pb k x/\s2 k (s1 k x) % 16<=4:=by
 induction k generalizing x with
 | zero=>simp [s1,s2,s3,rep,pb]
 | succ k ih=>
  have ha:x % 256<256:=Nat.mod_lt _ (by omega)
  obtain⟨i1,i2⟩:=ih (x / 256)
  obtain⟨b1,b2,b3⟩:=Zfi _ ha
  rw [Z3n,Zeo _ _ _ (Z4v _ ha),ZDe _ _ _ b1 b2 i2,i1,f3_eq _ ha]
  exact⟨rfl,by omega⟩
theorem dv (B A b:Nat) (hb:b<B):(b+B*A) / B=A:=by
 rw [Nat.add_mul_div_left _ _ (by omega),Nat.div_eq_of_lt hb];omega
theorem sum8e (p0 p1 p2 p3 p4 p5 p6 p7:Nat) :
  256*(256*(256*(256*(256*(256*(256*(256*0+p7)+p6)+p5)+p4)+p3)+p2)+p1)+p0=p0+256*(256*(256*(256*(256*(256*(256*p7+p6)+p5)+p4)+p3)+p2)+p1) /\
  (p0+256*(256*(256*(256*(256*(256*(256*p7+p6)+p5)+p4)+p3)+p2)+p1))+(256*(256*(256*(256*(256*(256*p7+p6)+p5)+p4)+p3)+p2)+p1)=((p0+p1)+256*(p1+p2))+65536*((p2+p3)+256*(p3+p4)+65536*(p4+p5)+16777216*(p5+p6)+4294967296*(p6+p7)+1099511627776*p7) /\
  (((p0+p1)+256*(p1+p2))+65536*((p2+p3)+256*(p3+p4)+65536*(p4+p5)+16777216*(p5+p6)+4294967296*(p6+p7)+1099511627776*p7))+((p2+p3)+256*(p3+p4)+65536*(p4+p5)+16777216*(p5+p6)+4294967296*(p6+p7)+1099511627776*p7)=((p0+p1+p2+p3)+256*(p1+p2+p3+p4)+65536*(p2+p3+p4+p5)+16777216*(p3+p4+p5+p6))+4294967296*((p4+p5+p6+p7)+256*(p5+p6+p7)+65536*(p6+p7)+16777216*p7) /\
  (((p0+p1+p2+p3)+256*(p1+p2+p3+p4)+65536*(p2+p3+p4+p5)+16777216*(p3+p4+p5+p6))+4294967296*((p4+p5+p6+p7)+256*(p5+p6+p7)+65536*(p6+p7)+16777216*p7))+((p4+p5+p6+p7)+256*(p5+p6+p7)+65536*(p6+p7)+16777216*p7)=(p0+p1+p2+p3+p4+p5+p6+p7)+128*(2*(p1+p2+p3+p4+p5+p6+p7)+512*(p2+p3+p4+p5+p6+p7)+131072*(p3+p4+p5+p6+p7)+33554432*((p4+p5+p6+p7)+256*(p5+p6+p7)+65536*(p6+p7)+16777216*p7)):=by
 refine⟨?_,?_,?_,?_⟩<;>omega
theorem sum8 (p0 p1 p2 p3 p4 p5 p6 p7:Nat) (h0:p0<=8) (h1:p1<=8) (h2:p2<=8) (h3:p3<=8) (h4:p4<=8) (h5:p5<=8) (h6:p6<=8) (h7:p7<=8) (w t u v:Nat)
  (hw:w=256*(256*(256*(256*(256*(256*(256*(256*0+p7)+p6)+p5)+p4)+p3)+p2)+p1)+p0) (ht:t=w+w / 256) (hu:u=t+t / 65536) (hv:v=u+u / 4294967296) :
  v % 128=p0+p1+p2+p3+p4+p5+p6+p7/\w<=v/\t<=v/\u<=v/\v<18446744073709551616:=by
 obtain⟨q1,q2,q3,q4⟩:=sum8e p0 p1 p2 p3 p4 p5 p6 p7
 rw [q1] at hw
 rw [hw,dv 256 _ _ (Nat.lt_of_le_of_lt h0 (by decide)),q2] at ht
 rw [ht,dv 65536 _ _ (Nat.lt_of_le_of_lt (Nat.add_le_add (Nat.add_le_add h0 h1) (Nat.mul_le_mul_left 256 (Nat.add_le_add h1 h2))) (by decide)),q3] at hu
 rw [hu,dv 4294967296 _ _ (Nat.lt_of_le_of_lt (Nat.add_le_add (Nat.add_le_add (Nat.add_le_add (Nat.add_le_add (Nat.add_le_add (Nat.add_le_add h0 h1) h2) h3) (Nat.mul_le_mul_left 256 (Nat.add_le_add (Nat.add_le_add (Nat.add_le_add h1 h2) h3) h4))) (Nat.mul_le_mul_left 65536 (Nat.add_le_add (Nat.add_le_add (Nat.add_le_add h2 h3) h4) h5))) (Nat.mul_le_mul_left 16777216 (Nat.add_le_add (Nat.add_le_add (Nat.add_le_add h3 h4) h5) h6))) (by decide)),q4] at hv
 have a1:w<=t:=by rw [hw,ht,<- q2];exact Nat.le_add_right _ _
 have a2:t<=u:=by rw [ht,hu,<- q3];exact Nat.le_add_right _ _
 have a3:u<=v:=by rw [hu,hv,<- q4];exact Nat.le_add_right _ _
 refine⟨?_,Nat.le_trans a1 (Nat.le_trans a2 a3),Nat.le_trans a2 a3,a3,?_⟩
 ·have hs:p0+p1+p2+p3+p4+p5+p6+p7<128:=Nat.lt_of_le_of_lt (Nat.add_le_add (Nat.add_le_add (Nat.add_le_add (Nat.add_le_add (Nat.add_le_add (Nat.add_le_add (Nat.add_le_add h0 h1) h2) h3) h4) h5) h6) h7) (by decide)
  rw [hv,Nat.add_mul_mod_self_left,Nat.mod_eq_of_lt hs]
 ·clear a1 a2 a3 q1 q2 q3 q4 hw ht hu
  omega
def popN (x:Nat):Nat:=
 let w:=s3 8 (s2 8 (s1 8 x))
 let t:=w+w / 256
 let u:=t+t / 65536
 let v:=u+u / 4294967296
 v % 128
theorem ZDo (x:Nat) (hx:x<2 ^ 37):popN x=bc 37 x:=by
 have h:=sum8 (bc 8 (x % 256)) (bc 8 (x / 256 % 256)) (bc 8 (x / 256 / 256 % 256)) (bc 8 (x / 256 / 256 / 256 % 256)) (bc 8 (x / 256 / 256 / 256 / 256 % 256)) (bc 8 (x / 256 / 256 / 256 / 256 / 256 % 256)) (bc 8 (x / 256 / 256 / 256 / 256 / 256 / 256 % 256)) (bc 8 (x / 256 / 256 / 256 / 256 / 256 / 256 / 256 % 256))
  (JC _ _) (JC _ _) (JC _ _) (JC _ _) (JC _ _) (JC _ _) (JC _ _) (JC _ _) (pb 8 x) _ _ _ rfl rfl rfl rfl
 unfold popN
 rw [(swar 8 x).1]
 refine h.1.trans ?_
 have m8:∀y,bc 8 (y % 256)=bc 8 y:=fun y=>ZeC 8 8 y (Nat.le_refl 8)
 simp only [m8]
 have z5:x / 256 / 256 / 256 / 256 / 256=0:=by omega
 rw [z5]
 simp only [Nat.zero_div,Ze4,Nat.add_zero]
 rw [show 37=8+(8+(8+(8+5))) from rfl,fA,fA,fA,fA]
 have e5:bc 8 (x / 256 / 256 / 256 / 256)=bc 5 (x / 256 / 256 / 256 / 256):=by
  rw [show 8=5+3 from rfl,fA,show x / 256 / 256 / 256 / 256 / 2 ^ 5=0 by omega,Ze4]
  rfl
 rw [e5]
 simp only [show (2:Nat) ^ 8=256 from rfl]
 omega
theorem s1_lt (k x:Nat):s1 k x<256 ^ k:=by
 induction k generalizing x with
 | zero=>simp [s1,rep]
 | succ k ih=>
  have:=Z4v (x % 256) (Nat.mod_lt _ (by omega))
  have:=ih (x / 256)
  rw [Z3n,Nat.pow_succ]
  omega
theorem s2_le (k x:Nat):255*s2 k (s1 k x)+68<=68*256 ^ k:=by
 induction k generalizing x with
 | zero=>simp [s2,rep]
 | succ k ih=>
  have ha:x % 256<256:=Nat.mod_lt _ (by omega)
  obtain⟨b1,b2,b3⟩:=Zfi (x % 256) ha
  have:=ih (x / 256)
  rw [Z3n,Zeo _ _ _ (Z4v _ ha),Nat.pow_succ]
  omega
theorem ZDC (x:Nat):let w:=s3 8 (s2 8 (s1 8 x))
  let t:=w+w / 256
  let u:=t+t / 65536
  s1 8 x<18446744073709551616/\s2 8 (s1 8 x)+s2 8 (s1 8 x) / 16<18446744073709551616/\w<18446744073709551616/\t<18446744073709551616/\u<18446744073709551616/\u+u / 4294967296<18446744073709551616:=by
 have h:=sum8 (bc 8 (x % 256)) (bc 8 (x / 256 % 256)) (bc 8 (x / 256 / 256 % 256)) (bc 8 (x / 256 / 256 / 256 % 256)) (bc 8 (x / 256 / 256 / 256 / 256 % 256)) (bc 8 (x / 256 / 256 / 256 / 256 / 256 % 256)) (bc 8 (x / 256 / 256 / 256 / 256 / 256 / 256 % 256)) (bc 8 (x / 256 / 256 / 256 / 256 / 256 / 256 / 256 % 256))
  (JC _ _) (JC _ _) (JC _ _) (JC _ _) (JC _ _) (JC _ _) (JC _ _) (JC _ _) (pb 8 x) _ _ _ rfl rfl rfl rfl
 intro w t u
 have e:w=pb 8 x:=(swar 8 x).1
 rw [<- e] at h
 have q2:=s2_le 8 x
 refine⟨s1_lt 8 x,?_,Nat.lt_of_le_of_lt h.2.1 h.2.2.2.2,Nat.lt_of_le_of_lt h.2.2.1 h.2.2.2.2,Nat.lt_of_le_of_lt h.2.2.2.1 h.2.2.2.2,h.2.2.2.2⟩
 clear h e
 clear_value w t u
 generalize s2 8 (s1 8 x)=y at q2
 omega
def J7 (x:Nat):Nat:=((x >>> 0 &&& 257) <<< 7) ||| ((x >>> 1 &&& 257) <<< 6) ||| ((x >>> 2 &&& 257) <<< 5) ||| ((x >>> 3 &&& 257) <<< 4) ||| ((x >>> 4 &&& 257) <<< 3) ||| ((x >>> 5 &&& 257) <<< 2) ||| ((x >>> 6 &&& 257) <<< 1) ||| ((x >>> 7 &&& 257) <<< 0)
theorem ZDX (a b:Nat):J7 (a ||| b)=J7 a ||| J7 b:=by
 have t:∀i j,((a ||| b) >>> i &&& 257) <<< j=((a >>> i &&& 257) <<< j) ||| ((b >>> i &&& 257) <<< j):=by
  intro i j
  rw [Nat.shiftRight_or_distrib,Nat.and_or_distrib_right,Nat.shiftLeft_or_distrib]
 simp only [J7,t]
 ac_rfl
def rv (k x r:Nat):Nat:=match k with
 | 0=>r
 | k+1=>rv k (x / 2) (2*r+x % 2)
theorem VF:∀a<256,J7 a=rv 8 a 0/\J7 (256*a)=256*rv 8 a 0/\rv 8 a 0<256:=by decide +kernel
theorem ZeO (x:Nat) (hx:x<65536):J7 x=256*rv 8 (x / 256) 0+rv 8 (x % 256) 0:=by
 have hl:=VF (x % 256) (Nat.mod_lt _ (by omega))
 have hh:=VF (x / 256) (by omega)
 have e:x=256*(x / 256) ||| x % 256:=by
  rw [nat_join 8 (256*(x / 256)) (x % 256) (by omega) (by omega)];omega
 conv=>lhs;rw [e]
 rw [ZDX,hh.2.1,hl.1,nat_join 8 _ _ (by omega) (by omega)]
theorem Zez (x:Nat) (hx:x<65536):J7 x<65536:=by
 rw [ZeO x hx]
 have:=(VF (x % 256) (Nat.mod_lt _ (by omega))).2.2
 have:=(VF (x / 256) (by omega)).2.2
 omega
end Go.Proofs.YtjodhcdmhobmoaaGreatDoor.Na
namespace Go.Proofs.YtjodhcdmhobmoaaGreatDoor
open Go Go.Proofs.YtjodhcdmhobmoaaGreatDoor.Le
theorem Eb {n:Int} (h : -9223372036854775808<=n) (h' : n<=9223372036854775807):AP n=n:=by
 simp only [AP,IntKind.wrap,IntKind.signed,IntKind.bits]
 simp
 omega
def cl (lo hi x:Int):Int:=max lo (min x hi)
theorem ZeX (lo hi x:Int) (h:lo<=hi):lo<=cl lo hi x/\cl lo hi x<=hi:=by unfold cl;omega
theorem cl1 (lo hi x:Int) (h:lo<=hi):(if hi<(if lo>x then lo else x) then hi else (if lo>x then lo else x))=cl lo hi x:=by unfold cl;split<;>split<;>omega
theorem cl2 (lo hi x:Int) (h:lo<=hi):(if (if hi<x then hi else x)>lo then (if hi<x then hi else x) else lo)=cl lo hi x:=by unfold cl;split<;>split<;>omega
def PM (s:FD):Bool:=decide (s.f_low<=s.TA)&&decide (s.TA<=s.tK)
theorem ZyD (xs:List FD) (hl:xs.length<1000):∀(k i:Nat),i+k=xs.length->AV WX (.b1 xs xs.length i)=some ((xs.drop i).all PM):=by
 intro k
 induction k with
 | zero=>
  intro i hi
  refine(AZ _ _).trans ?_
  simp only [WX,DN]
  rw [show decide ((i:Int)<(xs.length:Int))=false by simp;omega,List.drop_of_length_le (by omega)]
  rfl
 | succ k ih=>
  intro i hi
  have hx:i<xs.length:=by omega
  refine(AZ _ _).trans ?_
  simp only [WX,DN]
  rw [show decide ((i:Int)<(xs.length:Int))=true by simp;omega]
  rw [show decide (0<=(i:Int)/\(i:Int)<(xs.length:Int))=true by simp;omega]
  simp only [cond_true,Int.toNat_natCast,List.getElem?_eq_getElem hx,Option.bind_some]
  rw [List.drop_eq_getElem_cons hx,List.all_cons]
  by_cases h1:(xs[i]).TA<(xs[i]).f_low
  ·rw [decide_eq_true h1,show PM xs[i]=false by simp [PM];omega];rfl
  ·by_cases h2:(xs[i]).TA>(xs[i]).tK
   ·rw [decide_eq_false h1,decide_eq_true h2,show PM xs[i]=false by simp [PM];omega];rfl
   ·rw [decide_eq_false h1,decide_eq_false h2,show PM xs[i]=true by simp [PM];omega]
    simp only [cond_false,Bool.true_and]
    refine(AZ _ _).trans ?_
    simp only [WX,DN]
    rw [Eb (by omega) (by omega)]
    exact ih (i+1) (by omega)
theorem Zk7 (xs:List FD) (hl:xs.length<1000):zS xs=some (xs.all PM):=
 (AZ _ _).trans (ZyD xs hl xs.length 0 (by simp))
theorem ZqC (x lo hi:Int):Nh x lo hi=some (decide (lo<=x)&&decide (x<=hi)):=(AZ _ _).trans (by
 simp only [Z0s,DN]
 by_cases h:x>=lo
 ·rw [decide_eq_true h];simp
 ·rw [decide_eq_false h];simp)
def inB (x lo hi:Int):Bool:=decide (lo<=x)&&decide (x<=hi)
def IW (u:DL):Int:=
 if !(inB u.EK 1 8&&inB u.EJ 0 3200&&inB u.Df 6 3200&&inB u.Dh 0 499&&inB u.EO 10 3200) then 5
 else if u.EK>=u.Df then 11 else if u.EJ>u.Df then 11
 else if (AP (u.EO*(10000:Int)))<=(AP ((AP ((AP ((2:Int)*(AP (u.Dh+(1:Int)))))*u.Df))*(1250:Int))) then 11 else 0
theorem Pq (u:DL):iV u=some (IW u):=(AZ _ _).trans (by
 simp only [Z5d,DN]
 rw [Zk7 _ (by simp)]
 simp only [List.all_cons,List.all_nil,PM,Bool.and_true,Option.bind_some,List.length_cons,List.length_nil,IW,inB,Bool.and_assoc]
 generalize (decide (1<=u.EK)&&_)=b
 cases b with
 | false=>rfl
 | true=>
  by_cases h1:u.EK>=u.Df
  ·simp [h1]
  ·by_cases h2:u.EJ>u.Df
   ·simp [h1,h2]
   ·by_cases h3:(AP (u.EO*(10000:Int)))<=(AP ((AP ((AP ((2:Int)*(AP (u.Dh+(1:Int)))))*u.Df))*(1250:Int)))
    ·simp [h1,h2,h3]
    ·simp [h1,h2,h3])
theorem Zjz (u:DL):WJ u=some (IW u):=(AZ _ _).trans (by
 simp only [jZ,DN,ZqC,Option.bind_some,IW]
 rw [show (decide (1<=u.EK)&&decide (u.EK<=8))=inB u.EK 1 8 from rfl]
 rw [show (decide (0<=u.EJ)&&decide (u.EJ<=3200))=inB u.EJ 0 3200 from rfl]
 rw [show (decide (6<=u.Df)&&decide (u.Df<=3200))=inB u.Df 6 3200 from rfl]
 rw [show (decide (0<=u.Dh)&&decide (u.Dh<=499))=inB u.Dh 0 499 from rfl]
 rw [show (decide (10<=u.EO)&&decide (u.EO<=3200))=inB u.EO 10 3200 from rfl]
 cases inB u.EK 1 8<;>first|rfl|skip
 cases inB u.EJ 0 3200<;>first|rfl|skip
 cases inB u.Df 6 3200<;>first|rfl|skip
 cases inB u.Dh 0 499<;>first|rfl|skip
 cases inB u.EO 10 3200<;>first|rfl|skip
 simp only [Bool.not_true,cond_false,Bool.and_true,Bool.false_eq_true,if_false]
 refine(AZ _ _).trans ?_
 simp only [jZ,DN]
 by_cases h1:u.EK>=u.Df
 ·simp [h1]
 ·by_cases h2:u.EJ>u.Df
  ·simp [h1,h2]
  ·by_cases h3:(AP (u.EO*(10000:Int)))<=(AP ((AP ((AP ((2:Int)*(AP (u.Dh+(1:Int)))))*u.Df))*(1250:Int)))
   ·simp [h1,h2,h3]
   ·simp [h1,h2,h3])
theorem Z8O (x lo hi:Int) (h:lo<=hi):lK x lo hi=some (cl lo hi x):=(AZ _ _).trans (by simp only [Z88,DN,cl1 lo hi x h])
theorem Z8k (x lo hi:Int) (h:lo<=hi):XM x lo hi=some (cl lo hi x):=(AZ _ _).trans (by
 simp only [ZQ,DN,cl]
 by_cases h1:x<lo
 ·rw [decide_eq_true h1,show max lo (min x hi)=lo by omega];rfl
 ·by_cases h2:x>hi
  ·rw [decide_eq_false h1,decide_eq_true h2,show max lo (min x hi)=hi by omega];rfl
  ·rw [decide_eq_false h1,decide_eq_false h2,show max lo (min x hi)=x by omega];rfl)
def fresh:List BR:=List.replicate 37 ⟨0,0⟩
theorem ZBH (p:Int) (h0:0<=p) (h1:p<=1099511627776000):(p+1000000 - 1).tdiv 1000000=if p.tmod 1000000>0 then p.tdiv 1000000+1 else p.tdiv 1000000:=by
 rw [Int.tdiv_eq_ediv_of_nonneg (by omega),Int.tdiv_eq_ediv_of_nonneg h0,Int.tmod_eq_emod_of_nonneg h0]
 split<;>omega
def widening (p t:Int):Int:=(cl 0 1099511627776 t*cl 0 1000 p+1000000 - 1).tdiv 1000000+32
theorem Ze1 (p t:Int):0<=cl 0 1099511627776 t*cl 0 1000 p/\cl 0 1099511627776 t*cl 0 1000 p<=1099511627776000:=by
 have h1:=ZeX 0 1099511627776 t (by decide)
 have h2:=ZeX 0 1000 p (by decide)
 generalize cl 0 1099511627776 t=a at *
 generalize cl 0 1000 p=b at *
 refine⟨Int.mul_nonneg h1.1 h2.1,?_⟩
 exact Int.le_trans (Int.mul_le_mul h1.2 h2.2 h2.1 (by decide)) (by decide)
theorem Zk0 (p t:Int):zQ p t=some (widening p t):=(AZ _ _).trans (by
 simp only [Z6Q,DN]
 rw [Z8O _ _ _ (by decide),Z8O _ _ _ (by decide)]
 simp only [Option.bind_some,widening]
 have h:=Ze1 p t
 generalize cl 0 1099511627776 t*cl 0 1000 p=q at *
 have hd:(q+1000000 - 1).tdiv 1000000=(q+1000000 - 1) / 1000000:=Int.tdiv_eq_ediv_of_nonneg (by omega)
 rw [Eb (n:=q) (by omega) (by omega),Eb (n:=q+1000000) (by omega) (by omega),Eb (n:=q+1000000 - 1) (by omega) (by omega),Eb (n:=(q+1000000 - 1).tdiv 1000000) (by omega) (by omega),Eb (by omega) (by omega)])
theorem ZlL (p t:Int):kU p t=some (widening p t):=(AZ _ _).trans (by
 simp only [kS,DN]
 rw [Z8k _ _ _ (by decide),Z8k _ _ _ (by decide)]
 simp only [Option.bind_some,widening]
 have h:=Ze1 p t
 generalize cl 0 1099511627776 t*cl 0 1000 p=q at *
 rw [ZBH q h.1 h.2]
 have hd:q.tdiv 1000000=q / 1000000:=Int.tdiv_eq_ediv_of_nonneg (by omega)
 rw [Eb (n:=q) (by omega) (by omega),Eb (n:=q.tdiv 1000000) (by omega) (by omega),Eb (n:=q.tdiv 1000000+1) (by omega) (by omega)]
 have hb:∀a,AV kS (.b1 a)=some (AP (a+32)):=fun a=>(AZ _ _).trans rfl
 simp only [hb]
 by_cases hm:q.tmod 1000000>0
 ·rw [decide_eq_true hm,if_pos hm,Eb (n:=q.tdiv 1000000+1+32) (by omega) (by omega)];rfl
 ·rw [decide_eq_false hm,if_neg hm,Eb (n:=q.tdiv 1000000+32) (by omega) (by omega)];rfl)
def qZ (l:A8):Hq:=
 if l.Bl=1 then ⟨AP (l.Ed - widening (AP (l.Ce.Pj+l.Clock)) (AP ((AP (l.Ed+l.Size)) - l.Sync))),AP ((AP (l.Ed+l.Size))+widening (AP (l.Ce.Pj+l.Clock)) (AP ((AP (l.Ed+l.Size)) - l.Sync)))⟩ else ⟨l.Ed,l.Ed⟩
theorem ZmX (l:A8):ZX l=some (qZ l):=(AZ _ _).trans (by
 simp only [Z7Y,DN,Zk0,Option.bind_some,qZ]
 by_cases h:l.Bl=1
 ·simp [h]
 ·rw [show (l.Bl != 1)=true by simpa using h];simp [h])
theorem ZqD (l:A8) (hr:l.Bl=0\/l.Bl=1):mD l=some (qZ l):=(AZ _ _).trans (by
 simp only [Z0H,DN,ZlL,Option.bind_some,qZ]
 rcases hr with h|h<;>simp [h])
theorem Zwe (a:BU):Z2i a=some ((a.Az.length:Int)==0):=(AZ _ _).trans rfl
theorem Zwh (a:BU):pI a=some ((a.Az.length:Int)==0):=(AZ _ _).trans rfl
def must (l:Dc) (b:Bool):Bool:=l.Full||(b||decide (l.OC>=l.Dh))
theorem ZlB (l:Dc) (b:Bool):ZE l b=some (must l b):=(AZ _ _).trans (by
 simp only [Z7e,DN,must]
 cases l.Full<;>cases b<;>simp
 cases decide (l.Dh<=l.OC)<;>rfl)
theorem Zup (l:Dc) (b:Bool):Yj l b=some (must l b):=(AZ _ _).trans (by
 simp only [Z1R,DN,must]
 cases l.Full<;>cases b<;>simp)
def uS (l:A8):Bool:=l.Bc==0&&(l.Bl==1&&(l.Hw&&(((l.BA.length:Int)==0)&&(((l.Ak.Bz.length:Int)==0) && !must l.GM (!((l.BB.Az.length:Int)==0))))))
theorem Zol (l:A8):Z0j l=some (uS l):=(AZ _ _).trans (by
 have h1:AV lV (.b1 l)=some (((l.BA.length:Int)==0)&&(((l.Ak.Bz.length:Int)==0) && !must l.GM (!((l.BB.Az.length:Int)==0)))):=(AZ _ _).trans (by
  simp only [lV,DN,Zwe,ZlB,Option.bind_some]
  cases ((l.BA.length:Int)==0)<;>cases ((l.Ak.Bz.length:Int)==0)<;>rfl)
 simp only [lV,DN,h1,uS,bne]
 cases (l.Bc==0)<;>cases (l.Bl==1)<;>cases l.Hw<;>rfl)
theorem ZtK (l:A8):UN l=some (uS l):=(AZ _ _).trans (by
 simp only [Z0R,DN,Zwh,Zup,Option.bind_some,uS]
 cases (l.Bc==0)<;>cases (l.Bl==1)<;>cases l.Hw<;>cases ((l.BA.length:Int)==0)<;>cases ((l.Ak.Bz.length:Int)==0)<;>rfl)
open Go Go.Proofs.YtjodhcdmhobmoaaGreatDoor.Le Go.Proofs.YtjodhcdmhobmoaaGreatDoor.Na
set_option maxRecDepth 100000
theorem VT {n:Nat} (h:n<18446744073709551616):IntKind.u64.wrap (n:Int)=n:=by
 rw [show IntKind.u64.wrap (n:Int)=(n:Int) % 18446744073709551616 by simp [IntKind.wrap,IntKind.bits,IntKind.signed]];omega
theorem fd (n k:Nat):Int.fdiv (n:Int) (2 ^ k)=((n / 2 ^ k:Nat):Int):=by
 rw [Int.fdiv_eq_ediv_of_nonneg _ (Int.le_of_lt (Int.pow_pos (by decide)))]
 rw [Int.natCast_ediv];simp
def J1 (a:Int):Int:=IntKind.wrap .u64 ((bits .and .u64 (Int.fdiv a (2 ^ (1:Nat))) (6148914691236517205:Int))+(bits .and .u64 a (6148914691236517205:Int)))
def J2 (a:Int):Int:=IntKind.wrap .u64 ((bits .and .u64 (Int.fdiv a (2 ^ (2:Nat))) (3689348814741910323:Int))+(bits .and .u64 a (3689348814741910323:Int)))
def J3 (a:Int):Int:=bits .and .u64 (IntKind.wrap .u64 ((Int.fdiv a (2 ^ (4:Nat)))+a)) (1085102592571150095:Int)
def J4 (k:Nat) (a:Int):Int:=IntKind.wrap .u64 (a+(Int.fdiv a (2 ^ k)))
theorem j1 (n:Nat) (hn:n<18446744073709551616) (h:s1 8 n<18446744073709551616):J1 (n:Int)=(s1 8 n:Nat):=by
 unfold J1
 rw [fd,show (6148914691236517205:Int)=((6148914691236517205:Nat):Int) from rfl,u64_and_nat _ _ (by omega) (by decide),u64_and_nat _ _ hn (by decide),<- Int.natCast_add]
 exact VT h
theorem j2 (n:Nat) (hn:n<18446744073709551616) (h:s2 8 n<18446744073709551616):J2 (n:Int)=(s2 8 n:Nat):=by
 unfold J2
 rw [fd,show (3689348814741910323:Int)=((3689348814741910323:Nat):Int) from rfl,u64_and_nat _ _ (by omega) (by decide),u64_and_nat _ _ hn (by decide),<- Int.natCast_add]
 exact VT h
theorem j3 (n:Nat) (h:n+n / 16<18446744073709551616):J3 (n:Int)=(s3 8 n:Nat):=by
 unfold J3
 rw [fd,<- Int.natCast_add,VT (by omega),show (1085102592571150095:Int)=((1085102592571150095:Nat):Int) from rfl,u64_and_nat _ _ (by omega) (by decide)]
 rfl
theorem j4 (k n:Nat) (h:n+n / 2 ^ k<18446744073709551616):J4 k (n:Int)=((n+n / 2 ^ k:Nat):Int):=by
 unfold J4
 rw [fd,<- Int.natCast_add,VT h]
theorem ZkC (a:Int):iQ a=some (bits .and .i64 (AP (J4 32 (J4 16 (J4 8 (J3 (J2 (J1 a))))))) 127):=(AZ _ _).trans rfl
theorem ZCG (n:Int):AP n % 128=n % 128:=by
 simp only [AP,IntKind.wrap,IntKind.signed,IntKind.bits]
 simp
 split<;>omega
theorem Zmv (n:Nat) (hn:n<2 ^ 37):iQ (n:Int)=some ((bc 37 n:Nat):Int):=by
 rw [ZkC]
 have h:=ZDC n
 simp only at h
 obtain⟨h1,h2,h3,h4,h5,h6⟩:=h
 rw [j1 _ (by omega) h1,j2 _ h1 (by omega),j3 _ h2,j4 8 _ h4,j4 16 _ h5,j4 32 _ h6]
 rw [<- ZDo n hn,i64_and127,ZCG]
 rfl
theorem Zde (n c:Nat) (hn:n<18446744073709551616):hasB (n:Int) c=(n / 2 ^ c % 2==1):=by
 unfold hasB
 rw [show ((n:Int) / 2 ^ c)=((n / 2 ^ c:Nat):Int) by rw [Int.natCast_ediv];simp]
 have hb:n / 2 ^ c<18446744073709551616:=Nat.lt_of_le_of_lt (Nat.div_le_self _ _) hn
 rw [show (1:Int)=((1:Nat):Int) from rfl,u64_and_nat _ _ hb (by decide),nat_mask1]
 generalize n / 2 ^ c % 2=x
 by_cases h:x=1
 ·subst h;rfl
 ·rw [show (x==1)=false by simpa using h];simpa using fun h' =>h (by omega)
theorem ZCW (n:Nat) (hn:n<18446744073709551616) (k:Nat):(Ew (n:Int) k).length=bc k n:=by
 induction k with
 | zero=>rfl
 | succ k ih=>
  rw [Z38,List.length_append,ih,Zde _ _ hn]
  simp only [bc]
  rcases Nat.mod_two_eq_zero_or_one (n / 2 ^ k) with h|h<;>simp [h]
theorem ZCn (n:Nat) (hn:n<18446744073709551616):bits .and .u64 (n:Int) 137438953471=((n % 2 ^ 37:Nat):Int):=by
 rw [show (137438953471:Int)=((137438953471:Nat):Int) from rfl,u64_and_nat _ _ hn (by decide),Nat.and_two_pow_sub_one_eq_mod _ 37]
def cnt (m:Int):Int:=((Ew m 37).length:Int)
theorem ZE6 (m:Int):0<=cnt m/\cnt m<=37:=by
 unfold cnt Ew
 have h1:=List.length_filter_le (hasB m) (List.range 37)
 rw [List.length_range] at h1
 exact⟨by omega,by omega⟩
theorem Zj (n:Nat) (hn:n<18446744073709551616):Ti (n:Int)=some (cnt (n:Int)):=(AZ _ _).trans (by
 simp only [Z6T,DN,ZCn n hn]
 rw [Zmv _ (Nat.mod_lt _ (by decide))]
 simp only [Option.bind_some,cnt,ZCW n hn,ZeC 37 37 n (Nat.le_refl _)])
def has (m c:Int):Bool:=decide (0<=c)&&(decide (c<37)&&hasB m c.toNat)
theorem Z8y (m c:Int) (hm:0<=m):lG m c=some (has m c):=(AZ _ _).trans (by
 simp only [Z7M,DN,has]
 by_cases h0:c>=0
 ·by_cases h1:c<37
  ·rw [decide_eq_true h0,decide_eq_true h1]
   simp only [cond_true,Bool.true_and,hasB]
   rw [show min c.toNat IntKind.u64.bits=c.toNat from Nat.min_eq_left (by simp [IntKind.bits];omega)]
   rw [Int.fdiv_eq_ediv_of_nonneg _ (Int.le_of_lt (Int.pow_pos (by decide)))]
  ·rw [decide_eq_true h0,decide_eq_false h1];simp
 ·rw [decide_eq_false h0];simp)
theorem ZA5 (k:Nat) (hk:k<=63):∀j i:Nat,i+j=k->AV UT (.b1 k ((2 ^ i:Nat):Int) i)=some ((2 ^ k:Nat):Int):=by
 intro j
 induction j with
 | zero=>
  intro i hi
  refine(AZ _ _).trans ?_
  simp only [UT,DN]
  rw [show decide ((i:Int)<(k:Int))=false by simp;omega,show i=k by omega]
  rfl
 | succ j ih=>
  intro i hi
  refine(AZ _ _).trans ?_
  simp only [UT,DN]
  have hp:2 ^ (i+1)<=2 ^ 63:=Nat.pow_le_pow_right (by decide) (by omega)
  rw [show decide ((i:Int)<(k:Int))=true by simp;omega]
  simp only [cond_true]
  rw [show ((2 ^ i:Nat):Int)*2=((2 ^ (i+1):Nat):Int) by rw [Nat.pow_succ];simp,VT (by omega),Eb (by omega) (by omega)]
  exact ih (i+1) (by omega)
theorem Zaa (k:Nat) (hk:k<=63):RS (k:Int)=some ((2 ^ k:Nat):Int):=(AZ _ _).trans (ZA5 k hk k 0 (by omega))
theorem Z2F (n:Nat) (hn:n<18446744073709551616) (c:Int):Ui (n:Int) c=some (has (n:Int) c):=(AZ _ _).trans (by
 simp only [Z2A,DN,has]
 by_cases h0:c>=0
 ·by_cases h1:c<=36
  ·rw [decide_eq_true h0,decide_eq_true h1,decide_eq_true (show c<37 by omega)]
   obtain⟨k,rfl⟩:∃k:Nat,c=k:=⟨c.toNat,by omega⟩
   have hp:0<2 ^ k:=Nat.pow_pos (by decide)
   simp only [cond_true,Bool.true_and,Int.toNat_natCast]
   rw [Zaa k (by omega),Zde _ _ hn]
   simp only [Option.bind_some]
   rw [show (((2 ^ k:Nat):Int) != 0)=true from bne_iff_ne.mpr (Int.natCast_ne_zero.mpr (Nat.pos_iff_ne_zero.mp hp))]
   simp only [cond_true]
   rw [Int.tdiv_eq_ediv_of_nonneg (Int.natCast_nonneg _),<- Int.natCast_ediv,VT (Nat.lt_of_le_of_lt (Nat.div_le_self _ _) hn),Int.tmod_eq_emod_of_nonneg (Int.natCast_nonneg _)]
   generalize n / 2 ^ k=x
   rcases Nat.mod_two_eq_zero_or_one x with h|h
   ·rw [show ((x:Int) % 2)=0 by omega,h];rfl
   ·rw [show ((x:Int) % 2)=1 by omega,h];rfl
  ·rw [decide_eq_true h0,decide_eq_false h1,decide_eq_false (show ¬c<37 by omega)];simp
 ·rw [decide_eq_false h0];simp)
theorem ZC7 (m:Int) (c:Nat) (hc:c<37):has m c=hasB m c:=by
 unfold has
 rw [decide_eq_true (show (0:Int)<=c by omega),decide_eq_true (show (c:Int)<37 by omega)]
 rfl
def Js (m:Int) (k:Nat):List Int:=(Ew m k).map fun c:Nat=>(c:Int)
theorem ZER (m:Int) (k:Nat):(Ew m k).length<=k:=by
 have h1:=List.length_filter_le (hasB m) (List.range k)
 rw [List.length_range] at h1
 exact h1
theorem Zzc (n:Nat) (hn:n<18446744073709551616):∀j i:Nat,i+j=37->AV Oi (.b1 n (Js n i) i)=some (Js n 37):=by
 intro j
 induction j with
 | zero=>
  intro i hi
  refine(AZ _ _).trans ?_
  simp only [Oi,DN]
  rw [show decide ((i:Int)<=36)=false by simp;omega,show i=37 by omega]
  simp
 | succ j ih=>
  intro i hi
  have hb:∀xs:List Int,AV Oi (.b2 n xs i)=AV Oi (.b1 n xs (i+1:Nat)):=fun xs=>(AZ _ _).trans (by
   simp only [Oi,DN]
   rw [Eb (by omega) (by omega)]
   simp)
  have hl:(Js n i).length<=37:=by
   rw [Js,List.length_map]
   have:=ZER n i
   omega
  refine(AZ _ _).trans ?_
  simp only [Oi,DN]
  rw [show decide ((i:Int)<=36)=true by simp;omega]
  simp only [cond_true,Z2F n hn,Option.bind_some,ZC7 (n:Int) i (by omega)]
  have e:Js n (i+1)=Js n i++if hasB n i then [(i:Int)] else []:=by
   simp only [Js,Z38,List.map_append]
   split<;>rfl
  have hih:=ih (i+1) (by omega)
  rw [e] at hih
  cases hh:hasB (n:Int) i with
  | true=>
   rw [hh] at hih
   simp only [if_true] at hih
   simp only [cond_true,List.length_cons,List.length_nil,beq_self_eq_true]
   rw [show (decide (((Js n i).length+(0+1))*8<=lim)&&decide ((Js n i).length+(0+1)<=maxLen))=true from
    Bool.and_eq_true_iff.mpr ⟨decide_eq_true (Nat.le_trans (show _<=1000 by omega) (by decide)),decide_eq_true (Nat.le_trans (show _<=1000 by omega) (by decide))⟩]
   simp only [cond_true,hb]
   exact hih
  | false=>
   rw [hh] at hih
   simp only [Bool.false_eq_true,if_false,List.append_nil] at hih
   simp only [cond_false,beq_self_eq_true,cond_true,hb]
   exact hih
theorem Zbw (n:Nat) (hn:n<18446744073709551616):U4 (n:Int)=some (Js n 37):=(AZ _ _).trans (by
 simp only [Oi,DN,List.length_nil,beq_self_eq_true,cond_true]
 exact Zzc n hn 37 0 (by omega))
theorem Z3q (m:Int):((Js m 37).length:Int)=cnt m:=by unfold Js cnt;rw [List.length_map]
theorem Z0P (n:Nat) (hn:n<18446744073709551616):UR (n:Int)=some (cnt (n:Int)):=(AZ _ _).trans (by
 simp only [Z14,DN,Zbw n hn,Option.bind_some,Z3q])
theorem Zd3 (n:Nat) (hn:n<18446744073709551616) (i:Int):dI (n:Int) i=some (MR n i):=(AZ _ _).trans (by
 simp only [qA,DN,Zbw n hn,Option.bind_some,Z3q,MR]
 by_cases h0:i<0
 ·rw [decide_eq_true h0,if_neg (by omega)];rfl
 ·by_cases h1:i>=cnt n
  ·rw [decide_eq_false h0,decide_eq_true h1,if_neg (by unfold cnt at h1;omega)];rfl
  ·rw [decide_eq_false h0,decide_eq_false h1,if_pos (by unfold cnt at h1;omega)]
   simp only [cond_false]
   refine(AZ _ _).trans ?_
   simp only [qA,DN,Z3q]
   rw [decide_eq_true (show 0<=i/\i<cnt n by omega)]
   simp only [cond_true]
   have hi:i.toNat<(Ew n 37).length:=by unfold cnt at h1;omega
   rw [show (Js n 37)[i.toNat]? = some (((Ew (n:Int) 37)[i.toNat]:Nat):Int) by
    unfold Js;rw [List.getElem?_map,List.getElem?_eq_getElem hi];rfl]
   rw [List.getElem?_eq_getElem hi]
   rfl)
def Ia (m:Int):Int:=if m>=137438953472 then 5 else if cnt m<2 then 1 else 0
theorem ZuI (n:Nat) (hn:n<18446744073709551616):(bits .andNot .u64 (n:Int) 137438953471 != 0)=decide ((n:Int)>=137438953472):=by
 rw [show (137438953471:Int)=((137438953471:Nat):Int) from rfl,u64_andNot_nat _ _ hn (by decide)]
 have e:n &&& (18446744073709551615 - 137438953471)=2 ^ 37*(n / 2 ^ 37):=by
  refine Nat.eq_of_testBit_eq fun j=>?_
  rw [Nat.testBit_and,show 18446744073709551615 - 137438953471=2 ^ 37*(2 ^ 27 - 1)+0 from rfl,Nat.testBit_two_pow_mul_add _ (by decide),show 2 ^ 37*(n / 2 ^ 37)=2 ^ 37*(n / 2 ^ 37)+0 from rfl,Nat.testBit_two_pow_mul_add _ (by decide)]
  split
  ·simp
  ·rename_i hj
   rw [Nat.testBit_div_two_pow,Nat.testBit_two_pow_sub_one,show j - 37+37=j by omega]
   by_cases h:j - 37<27
   ·simp [h]
   ·have:n.testBit j=false:=Nat.testBit_lt_two_pow (Nat.lt_of_lt_of_le hn (by
     have:2 ^ 64<=2 ^ j:=Nat.pow_le_pow_right (by decide) (by omega)
     simpa using this))
    simp [this]
 rw [e]
 by_cases h:(n:Int)>=137438953472
 ·rw [decide_eq_true h];simp;omega
 ·rw [decide_eq_false h,show n / 2 ^ 37=0 by omega];rfl
theorem ZkL (n:Nat) (hn:n<18446744073709551616):Zk (n:Int)=some (Ia n):=(AZ _ _).trans (by
 simp only [Z6V,DN,ZuI n hn,Zj n hn,Option.bind_some,Ia]
 by_cases h:(n:Int)>=137438953472
 ·rw [decide_eq_true h,if_pos h];rfl
 ·rw [decide_eq_false h,if_neg h]
  by_cases h2:cnt n<2
  ·rw [decide_eq_true h2,if_pos h2];rfl
  ·rw [decide_eq_false h2,if_neg h2];rfl)
theorem ZsC (n:Nat) (hn:n<18446744073709551616):YJ (n:Int)=some (Ia n):=(AZ _ _).trans (by
 simp only [Z1m,DN]
 rw [show RS 37=some 137438953472 from Zaa 37 (by decide)]
 simp only [Z0P n hn,Option.bind_some,Ia]
 by_cases h:(n:Int)>=137438953472
 ·rw [decide_eq_true h,if_pos h];rfl
 ·rw [decide_eq_false h,if_neg h]
  by_cases h2:cnt n<2
  ·rw [decide_eq_true h2,if_pos h2];rfl
  ·rw [decide_eq_false h2,if_neg h2];rfl)
def gV (m c:Int):Int:=if has m (cl 0 36 c) then cl 0 36 c else if cnt m=0 then -1 else MR m (Int.tmod (cl 0 36 c) (cnt m))
theorem Z7Z (m i:Int):lC m i=some (MR m i):=rfl
theorem Zl5 (n:Nat) (hn:n<18446744073709551616) (c:Int):Zx (n:Int) c=some (gV n c):=(AZ _ _).trans (by
 simp only [Z72,DN,Z8y (n:Int) _ (Int.natCast_nonneg n),Zj n hn,Z7Z,Option.bind_some,cl1 0 36 c (by decide),gV]
 cases has (n:Int) (cl 0 36 c) with
 | true=>rfl
 | false=>
  by_cases h:cnt n=0
  ·rw [h];rfl
  ·rw [show (cnt (n:Int)==0)=false by simpa using h,show (cnt (n:Int) != 0)=true by simpa using h];simp [h])
theorem ZrT (n:Nat) (hn:n<18446744073709551616) (c:Int):oC (n:Int) c=some (gV n c):=(AZ _ _).trans (by
 simp only [Z1k,DN,Z2F n hn,Z0P n hn,Zd3 n hn,Option.bind_some,cl2 0 36 c (by decide),gV]
 cases has (n:Int) (cl 0 36 c) with
 | true=>rfl
 | false=>
  by_cases h:cnt n=0
  ·rw [h];rfl
  ·rw [show (cnt (n:Int)==0)=false by simpa using h,show (cnt (n:Int) != 0)=true by simpa using h];simp [h])
def R8 (n:Int):Prop:=0<=n/\n<256
def R16 (n:Int):Prop:=0<=n/\n<65536
def R32 (n:Int):Prop:=0<=n/\n<4294967296
def CB (n:Int):Prop:=0<=n/\n<18446744073709551616
inductive CV:AL->Prop
 | upd (u:DL) (i:Int):IW u=0->R16 i->CV ⟨0,u,0,i,0,0,0,0,0,0,0⟩
 | map (m i:Int):CB m->Ia m=0->R16 i->CV ⟨1,BP,m,i,0,0,0,0,0,0,0⟩
 | term (r:Int):R8 r->CV ⟨2,BP,0,0,r,0,0,0,0,0,0⟩
 | enc (s m:Int):CB s->CB m->CV ⟨3,BP,0,0,0,0,s,m,0,0,0⟩
 | ans (s:Int):CB s->CV ⟨4,BP,0,0,0,0,s,0,0,0,0⟩
 | plain (k:Int):(k=5\/k=6\/k=18\/k=19)->CV ⟨k,BP,0,0,0,0,0,0,0,0,0⟩
 | Vh (r:Int):R8 r->CV ⟨7,BP,0,0,0,r,0,0,0,0,0⟩
 | gX (k f:Int):(k=8\/k=9)->CB f->CV ⟨k,BP,0,0,0,0,0,0,f,0,0⟩
 | iL (v:Int):R8 v->CV ⟨12,BP,0,0,0,0,0,0,0,v,0⟩
 | Vk (r k:Int):R8 r->R8 k->CV ⟨13,BP,0,0,r,k,0,0,0,0,0⟩
 | par (u:DL):IW u=0->CV ⟨15,u,0,0,0,0,0,0,0,0,0⟩
 | len (k n:Int):(k=20\/k=21)->27<=n->n<=251->CV ⟨k,BP,0,0,0,0,0,0,0,0,n⟩
theorem CV.ZEC {c:AL} (h:CV c) (hk:c.Kind=20):27<=c.Length/\c.Length<=251:=by
 cases h<;>first|(dsimp only at hk;omega)|exact⟨by assumption,by assumption⟩
theorem CV.inst {c:AL} {i:Int} (h:CV c) (hk:c.Kind=0\/c.Kind=1) (hi:R16 i):CV { c with DD:=i }:=by
 cases h<;>first|(dsimp only at hk;omega)|exact CV.upd _ _ (by assumption) hi|exact CV.map _ _ (by assumption) (by assumption) hi
def Cc (l:List Int):Prop:=∀b∈l,R8 b
theorem ZeM (n:Int):R8 (IntKind.wrap .u8 n):=by unfold R8;rw [IntKind.wrap_u8];omega
theorem Zep (n:Int):R16 (IntKind.wrap .u16 n):=by unfold R16;rw [IntKind.wrap_u16];omega
theorem ZdT (n:Int):R32 (IntKind.wrap .u32 n):=by unfold R32;rw [IntKind.wrap_u32];omega
theorem GK (n:Int):CB (IntKind.wrap .u64 n):=by unfold CB;rw [IntKind.wrap_u64];omega
theorem ZFG (o:BinOp) (a b:Int):R8 (bits o .u8 a b):=ZeM _
theorem ZDO (o:BinOp) (a b:Int):R16 (bits o .u16 a b):=Zep _
theorem ZD8 (o:BinOp) (a b:Int):R32 (bits o .u32 a b):=ZdT _
theorem ZCM (o:BinOp) (a b:Int):CB (bits o .u64 a b):=GK _
theorem JB:CB 0:=by unfold CB;omega
theorem ZFx:CB 63:=by unfold CB;omega
theorem fZ:R16 0:=by unfold R16;omega
theorem Z4e:R32 0:=by unfold R32;omega
theorem Zem:Cc []:=fun _ h=>nomatch h
theorem ZBM (a b:List Int):Cc (a++b)↔Cc a/\Cc b:=by simp only [Cc,List.mem_append];exact⟨fun h=>⟨fun x hx=>h x (.inl hx),fun x hx=>h x (.inr hx)⟩,fun h x hx=>hx.elim (h.1 x) (h.2 x)⟩
theorem ZAe (a:Int) (b:List Int):Cc (a::b)↔R8 a/\Cc b:=by simp only [Cc,List.mem_cons,forall_eq_or_imp]
theorem ZAh (n:Nat) (l:List Int) (h:Cc l):Cc (l.take n):=fun x hx=>h x (List.mem_of_mem_take hx)
theorem ZAb (n:Nat) (l:List Int) (h:Cc l):Cc (l.drop n):=fun x hx=>h x (List.mem_of_mem_drop hx)
theorem ZCp {l:List Int} (h:Cc l) {x:Int} (hx:x∈l):R8 x:=h x hx
theorem Zx3 (xs:List Int):Le.bytesOf (xs.map (U.enc 5))=some (xs.map fun n=>UInt8.ofNat n.toNat):=by
 induction xs with
 | nil=>rfl
 | cons x xs ih=>
  rw [List.map_cons]
  show (match Le.byteOf (U.enc 5 x),Le.bytesOf (xs.map (U.enc 5)) with|some b,some bs=>some (b::bs)|_,_=>none)=_
  rw [ih]
  rfl
theorem Fz (xs:List Int) (h:xs.length<=1000000):Jd U 5 xs=true:=by
 unfold Jd
 rw [Zx3]
 exact decide_eq_true (by rw [List.length_map];exact Nat.le_trans (Nat.le_trans h (by decide)) (by decide:1000000000<=maxLen))
def Bj (c:AL):Prop:=CB c.Map/\R16 c.DD/\CB c.Bo/\CB c.Mark/\CB c.CQ/\0<=c.Kind
theorem CV.ct {c:AL} (h:CV c):Bj c:=by
 cases h<;>refine⟨?_,?_,?_,?_,?_,?_⟩<;>first|assumption|exact JB|exact fZ|(dsimp only;omega)
theorem CV.unkK (k:Int):CV ⟨7,BP,0,0,0,(if (255:Int)<(if (0:Int)>k then (0:Int) else k) then (255:Int) else (if (0:Int)>k then (0:Int) else k)),0,0,0,0,0⟩:=CV.Vh _ (by unfold R8;split<;>split<;>omega)
theorem CV.unkW {x:Int} (h:R8 x):CV ⟨7,BP,0,0,0,AP x,0,0,0,0,0⟩:=by obtain⟨h1,h2⟩:=h;rw [Bv (by omega) (by omega)];exact CV.Vh _ ⟨h1,h2⟩
theorem CV.rejK:CV ⟨13,BP,0,0,6,3,0,0,0,0,0⟩:=CV.Vk _ _ ⟨by decide,by decide⟩ ⟨by decide,by decide⟩
theorem CV.rejC:CV ⟨13,BP,0,0,42,15,0,0,0,0,0⟩:=CV.Vk _ _ ⟨by decide,by decide⟩ ⟨by decide,by decide⟩
theorem CV.verK:CV ⟨12,BP,0,0,0,0,0,0,0,11,0⟩:=CV.iL _ ⟨by decide,by decide⟩
def Kq (c:BN):Prop:=CB c.Map/\R16 c.DD
def FC (l:List AL):Prop:=∀c∈l,CV c
def FT (l:List BN):Prop:=∀c∈l,Kq c
def CO (p:Aw):Prop:=p.Payload.length<=65536/\Cc p.Payload
def Ei (p:Aw):Prop:=1<=p.Bq/\p.Bq<=3/\1<=p.Payload.length/\p.Payload.length<=251/\Cc p.Payload
def J5 (l:List Aw):Prop:=∀p∈l,Ei p
def EG (n:Int):Prop:=n=0\/n=1
theorem ZFf:EG 0:=.inl rfl
theorem ZEa:EG 1:=.inr rfl
theorem Zy5 {n:Int} (h:EG n):EG (AP (1 - n)):=by rcases h with rfl|rfl<;>first|exact .inr rfl|exact .inl rfl
def DT (a:BU):Prop:=EG a.SN/\EG a.EF/\a.Az.length<=64/\J5 a.Az/\(a.Open=true->a.Empty=false->0<a.Az.length)
def BJ (s:Aa):Prop:=s.BI.length<=8/\s.Bz.length<=1/\FC s.BI/\FT s.Bz/\CB s.CQ/\CB s.Bo/\CB s.JW/\CB s.Mark/\EG s.Bl /\ -1<=s.Own /\ -1<=s.Other/\27<=s.Limit/\s.Limit<=251
def Gs (s:C9):Prop:=CB s.Key/\CB s.Bo/\CB s.Tx/\CB s.Rx
def JG (p:Ey):Prop:=R32 p.IC/\R32 p.NT/\CB p.Map
def BQ (k:Int) (l:A8):Prop:=DT l.BB/\BJ l.Ak/\Gs l.ED/\JG l.Ce/\(l.BA.length:Int)<=k/\FC l.BA/\l.DJ.length<=37/\R16 l.Event/\CB l.Key/\CB l.I4/\EG l.Bl
def Es (a:Gh):Prop:=CO a.BG/\a.BG.Payload.length<=4096/\CB a.Map/\CB a.Number/\CB a.Key
def vV (a:Gh):Prop:=Cc a.BG.Payload/\CB a.Map/\CB a.Number/\CB a.Key
def Ii (e:Eg):Prop:=∀a∈e.Qw,vV a
theorem ZBo {e:Eg} (h:Ii e) {a:Gh} (ha:a∈e.Qw):vV a:=h a ha
def DX (k:Int) (s:CS):Prop:=BQ k s.x0/\BQ k s.x1
theorem GH {a b:Int} {l:A8} (h:BQ a l) (hab:a<=b):BQ b l:=⟨h.1,h.2.1,h.2.2.1,h.2.2.2.1,Int.le_trans h.2.2.2.2.1 hab,h.2.2.2.2.2⟩
theorem Gl {a b:Int} {s:CS} (h:DX a s) (hab:a<=b):DX b s:=⟨GH h.1 hab,GH h.2 hab⟩
def evL (l:List Eg):Prop:=∀e∈l,Ii e
theorem ZCI {l:List Eg} (h:evL l) {e:Eg} (he:e∈l):Ii e:=h e he
def EP (x:Il):Prop:=JG x.Ce/\CB x.Keys.x0/\CB x.Keys.x1/\evL x.Events
def Hm (l:List Int):Prop:=∀x∈l,0<=x/\x<=36
theorem ZAO:Hm []:=fun _ h=>nomatch h
theorem ZBi (a b:List Int):Hm (a++b)↔Hm a/\Hm b:=by simp only [Hm,List.mem_append];exact⟨fun h=>⟨fun x hx=>h x (.inl hx),fun x hx=>h x (.inr hx)⟩,fun h x hx=>hx.elim (h.1 x) (h.2 x)⟩
theorem ZzA (a:Int) (b:List Int):Hm (a::b)↔(0<=a/\a<=36)/\Hm b:=by simp only [Hm,List.mem_cons,forall_eq_or_imp]
theorem Zzf (n:Nat) (l:List Int) (h:Hm l):Hm (l.take n):=fun x hx=>h x (List.mem_of_mem_take hx)
theorem ZzL (n:Nat) (l:List Int) (h:Hm l):Hm (l.drop n):=fun x hx=>h x (List.mem_of_mem_drop hx)
theorem ZAp {l:List Int} (h:Hm l) {x:Int} (hx:x∈l):0<=x/\x<=36:=h x hx
theorem ZBP:FC []:=fun _ h=>nomatch h
theorem ZD6 (a b:List AL):FC (a++b)↔FC a/\FC b:=by simp only [FC,List.mem_append];exact⟨fun h=>⟨fun x hx=>h x (.inl hx),fun x hx=>h x (.inr hx)⟩,fun h x hx=>hx.elim (h.1 x) (h.2 x)⟩
theorem ZAg (a:AL) (b:List AL):FC (a::b)↔CV a/\FC b:=by simp only [FC,List.mem_cons,forall_eq_or_imp]
theorem ZBd (n:Nat) (l:List AL) (h:FC l):FC (l.take n):=fun x hx=>h x (List.mem_of_mem_take hx)
theorem ZBz (n:Nat) (l:List AL) (h:FC l):FC (l.drop n):=fun x hx=>h x (List.mem_of_mem_drop hx)
theorem ZC0 {l:List AL} (h:FC l) {x:AL} (hx:x∈l):CV x:=h x hx
theorem ZBm:FT []:=fun _ h=>nomatch h
theorem ZAT (a b:List BN):FT (a++b)↔FT a/\FT b:=by simp only [FT,List.mem_append];exact⟨fun h=>⟨fun x hx=>h x (.inl hx),fun x hx=>h x (.inr hx)⟩,fun h x hx=>hx.elim (h.1 x) (h.2 x)⟩
theorem ZxH (a:BN) (b:List BN):FT (a::b)↔Kq a/\FT b:=by simp only [FT,List.mem_cons,forall_eq_or_imp]
theorem ZAi {l:List BN} (h:FT l) {x:BN} (hx:x∈l):Kq x:=h x hx
theorem ZdQ:J5 []:=fun _ h=>nomatch h
theorem ZDN (a b:List Aw):J5 (a++b)↔J5 a/\J5 b:=by simp only [J5,List.mem_append];exact⟨fun h=>⟨fun x hx=>h x (.inl hx),fun x hx=>h x (.inr hx)⟩,fun h x hx=>hx.elim (h.1 x) (h.2 x)⟩
theorem ZAC (a:Aw) (b:List Aw):J5 (a::b)↔Ei a/\J5 b:=by simp only [J5,List.mem_cons,forall_eq_or_imp]
theorem ZAA (n:Nat) (l:List Aw) (h:J5 l):J5 (l.take n):=fun x hx=>h x (List.mem_of_mem_take hx)
theorem ZAX (n:Nat) (l:List Aw) (h:J5 l):J5 (l.drop n):=fun x hx=>h x (List.mem_of_mem_drop hx)
theorem ZCm {l:List Aw} (h:J5 l) {x:Aw} (hx:x∈l):Ei x:=h x hx
theorem ZCN:DT Jc:=⟨.inl rfl,.inl rfl,Nat.zero_le _,ZdQ,fun h=>nomatch h⟩
theorem ZFH:Gs RJ:=⟨JB,JB,JB,JB⟩
theorem ZFM:JG Z6P:=⟨Z4e,Z4e,JB⟩
theorem ZDS:Bj GZ:=⟨JB,fZ,JB,JB,JB,by decide⟩
theorem ZEV:Kq Me:=⟨JB,fZ⟩
theorem ZFt:CO F8.BG:=⟨Nat.zero_le _,Zem⟩
def Ez:List Be:=[⟨true,true,false,true,false,false,false,false,false,false,false⟩,⟨true,false,true,true,false,false,false,false,false,false,false⟩,⟨true,false,false,false,true,false,false,false,false,false,false⟩,⟨true,false,false,false,false,false,true,true,false,false,false⟩,⟨true,false,false,false,false,false,true,false,false,false,false⟩,⟨true,false,false,false,false,false,false,false,false,false,false⟩,⟨true,false,false,false,false,true,false,false,false,false,false⟩,⟨true,false,false,false,false,false,false,false,true,false,false⟩,⟨true,false,false,false,false,false,false,false,false,true,false⟩,⟨true,false,false,false,true,true,false,false,false,false,false⟩,⟨true,true,false,false,false,false,false,false,false,false,false⟩,⟨true,false,false,false,false,false,false,false,false,false,true⟩,⟨false,false,false,false,false,false,false,false,false,false,false⟩]
def D6 (u:Be):Prop:=u∈Ez
def Gu (u:Be):Int:=1+cond u.BH 9 0+cond u.Map 5 0+cond u.DD 2 0+cond (u.Bc||u.Version||u.Length) 1 0+cond u.DI 1 0+cond (u.Bo||u.CQ) 8 0+cond u.Mark 8 0
theorem ZAn {l:List Int} {v:Int} (h:Cc l) (hv:v∈l):Bj ⟨AP v,BP,0,0,0,0,0,0,0,0,0⟩:=by
 obtain⟨h1,h2⟩:=h v hv
 refine⟨JB,fZ,JB,JB,JB,?_⟩
 show 0<=AP v
 rw [Bv (by omega) (by omega)]
 exact h1
attribute [grind] BQ DT BJ Gs JG Bj Kq Es vV DX EP CO Ei
attribute [grind .] CV.upd CV.map CV.term CV.enc CV.ans CV.plain CV.Vh CV.gX CV.iL CV.Vk CV.par CV.len CV.inst CV.unkK CV.unkW CV.rejK CV.rejC CV.verK ZFf ZEa ZeM Zep ZdT GK ZFG ZDO ZD8 ZCM ZCN ZFH ZFM ZDS ZEV ZFt JB ZFx fZ Z4e Zem ZAh ZAb ZAO Zzf ZzL ZBP ZBd ZBz ZBm ZdQ ZAA ZAX
attribute [grind =] ZBM ZAe List.length_take List.length_drop ZBi ZzA ZD6 ZAg ZAT ZxH ZDN ZAC
attribute [grind ->] CV.ct CV.ZEC Zy5 ZBo ZCI ZCp ZAp ZC0 ZAi ZCm
set_option maxHeartbeats 2000000
def Z3z (l:List Int):Prop:=Jd U 5 l=true
theorem ZsJ (p:Aw) (h:Z3z p.Payload):zO p p=some true:=(AZ _ _).trans (by
 simp only [Z6B,DN,beq_self_eq_true,cond_true]
 rw [show Jd U 5 p.Payload=true from h]
 rfl)
theorem ZpG (xs:List Aw) (hl:xs.length<4611686018427387904) (h:∀p∈xs,Z3z p.Payload):zH xs xs=some true:=(AZ _ _).trans (by
 have step:∀j i:Nat,i+j=xs.length->AV WN (.b1 xs xs i)=some true:=by
  intro j
  induction j with
  | zero=>
   intro i hi
   refine(AZ _ _).trans ?_
   simp only [WN,DN]
   rw [show decide ((i:Int)<(xs.length:Int))=false by simp;omega]
   rfl
  | succ j ih=>
   intro i hi
   have hx:i<xs.length:=by omega
   refine(AZ _ _).trans ?_
   simp only [WN,DN]
   rw [show decide ((i:Int)<(xs.length:Int))=true by simp;omega,show decide (0<=(i:Int)/\(i:Int)<(xs.length:Int))=true by simp;omega]
   simp only [cond_true,Int.toNat_natCast,List.getElem?_eq_getElem hx,Option.bind_some,ZsJ _ (h _ (List.getElem_mem hx)),Bool.not_true,cond_false]
   rw [Bv (by omega) (by omega)]
   exact ih (i+1) (by omega)
 simp only [WN,DN,bne_self_eq_false,cond_false]
 exact step xs.length 0 (by omega))
theorem Z8D (xs:List AL) (hl:xs.length<4611686018427387904):jU xs xs=some true:=(AZ _ _).trans (by
 have step:∀j i:Nat,i+j=xs.length->AV WA (.b1 xs xs i)=some true:=by
  intro j
  induction j with
  | zero=>
   intro i hi
   refine(AZ _ _).trans ?_
   simp only [WA,DN]
   rw [show decide ((i:Int)<(xs.length:Int))=false by simp;omega]
   rfl
  | succ j ih=>
   intro i hi
   have hx:i<xs.length:=by omega
   refine(AZ _ _).trans ?_
   simp only [WA,DN]
   rw [show decide ((i:Int)<(xs.length:Int))=true by simp;omega,show decide (0<=(i:Int)/\(i:Int)<(xs.length:Int))=true by simp;omega]
   simp only [cond_true,Int.toNat_natCast,List.getElem?_eq_getElem hx,Option.bind_some,Gj,beq_self_eq_true,Bool.and_true,Bool.not_true,cond_false]
   rw [Bv (by omega) (by omega)]
   exact ih (i+1) (by omega)
 simp only [WA,DN,bne_self_eq_false,cond_false]
 exact step xs.length 0 (by omega))
theorem ZwW (p:Aa) (h1:p.BI.length<4611686018427387904) (h2:p.Bz.length<4611686018427387904):Zo p p=some true:=(AZ _ _).trans (by
 have step:∀j i:Nat,i+j=p.Bz.length->AV Wj (.b2 i p p)=some true:=by
  intro j
  induction j with
  | zero=>
   intro i hi
   refine(AZ _ _).trans ?_
   simp only [Wj,DN]
   rw [show decide ((i:Int)<(p.Bz.length:Int))=false by simp;omega]
   simp only [beq_self_eq_true,cond_true,cond_false]
  | succ j ih=>
   intro i hi
   have hx:i<p.Bz.length:=by omega
   refine(AZ _ _).trans ?_
   simp only [Wj,DN]
   rw [show decide ((i:Int)<(p.Bz.length:Int))=true by simp;omega,show decide (0<=(i:Int)/\(i:Int)<(p.Bz.length:Int))=true by simp;omega]
   simp only [cond_true,Int.toNat_natCast,List.getElem?_eq_getElem hx,Option.bind_some,Gj,beq_self_eq_true,Bool.and_true,Bool.not_true,cond_false]
   rw [Bv (by omega) (by omega)]
   exact ih (i+1) (by omega)
 simp only [Wj,DN,Z8D _ h1,Option.bind_some,Bool.not_true,cond_false,bne_self_eq_false]
 refine(AZ _ _).trans ?_
 exact step p.Bz.length 0 (by omega))
structure LWF (l:A8):Prop where
 tal:l.DJ.length<4611686018427387904
 que:l.BB.Az.length<4611686018427387904
 pay:∀p∈l.BB.Az,Z3z p.Payload
 wai:l.Ak.BI.length<4611686018427387904
 pen:l.Ak.Bz.length<4611686018427387904
 com:l.BA.length<4611686018427387904
theorem Zyt (l:A8) (h:LWF l):Z2e l l=some true:=(AZ _ _).trans (by
 have h4:AV NF (.b4 l l)=some true:=(AZ _ _).trans (by
  simp only [NF,DN,ZwW _ h.wai h.pen,Z8D _ h.com,Option.bind_some,beq_self_eq_true,cond_true])
 have h3:AV NF (.b3 l l)=some true:=(AZ _ _).trans (by
  simp only [NF,DN,beq_self_eq_true,Bool.and_true,Bool.not_true,cond_false,h4])
 have h2:AV NF (.b2 l l)=some true:=(AZ _ _).trans (by
  simp only [NF,DN,beq_self_eq_true,Bool.and_true,Bool.not_true,cond_false,bne_self_eq_false,h3])
 have step:∀j i:Nat,i+j=l.DJ.length->AV NF (.b1 i l l)=some true:=by
  intro j
  induction j with
  | zero=>
   intro i hi
   refine(AZ _ _).trans ?_
   simp only [NF,DN]
   rw [show decide ((i:Int)<(l.DJ.length:Int))=false by simp;omega]
   simp only [beq_self_eq_true,Bool.not_true,cond_false,bne_self_eq_false,ZpG _ h.que h.pay,Option.bind_some,h2]
  | succ j ih=>
   intro i hi
   have hx:i<l.DJ.length:=by omega
   have ht:=h.tal
   refine(AZ _ _).trans ?_
   simp only [NF,DN]
   rw [show decide ((i:Int)<(l.DJ.length:Int))=true by simp;omega,show decide (0<=(i:Int)/\(i:Int)<(l.DJ.length:Int))=true by simp;omega]
   simp only [cond_true,Int.toNat_natCast,List.getElem?_eq_getElem hx,Option.bind_some,Gj,beq_self_eq_true,Bool.and_true,Bool.not_true,cond_false]
   rw [Bv (by omega) (by omega)]
   exact ih (i+1) (by omega)
 simp only [NF,DN,bne_self_eq_false,cond_false]
 exact step l.DJ.length 0 (by omega))
theorem BQ.lwf {k:Int} {l:A8} (h:BQ k l) (hk:k<=1000000):LWF l:=by
 obtain⟨h1,h2,h3,h4,h5,h6,h7,h8⟩:=h
 obtain⟨a1,a2,a3,a4,a5⟩:=h1
 obtain⟨b1,b2,b3⟩:=h2
 refine⟨by omega,by omega,fun p hp=>Fz _ ?_,by omega,by omega,by omega⟩
 have:=(a4 p hp).2.2.2.1
 omega
theorem Zgr (p0:List Int) (h:p0.length<=1000000):∃r,N9 p0=some r/\r.q0=p0:=⟨⟨p0⟩,if_pos ⟨by rw [Cf];omega,by rw [maxLen_eq];omega⟩,rfl⟩
theorem Z58 (p0:List AL) (h:p0.length<=1000000):∃r,Vt p0=some r/\r.q0=p0:=⟨⟨p0⟩,if_pos ⟨by rw [Cf];omega,by rw [maxLen_eq];omega⟩,rfl⟩
theorem Zgd (p0:List BN) (h:p0.length<=1000000):∃r,iU p0=some r/\r.q0=p0:=⟨⟨p0⟩,if_pos ⟨by rw [Cf];omega,by rw [maxLen_eq];omega⟩,rfl⟩
theorem Zgi (p0:List BR) (h:p0.length<=1000000):∃r,iY p0=some r/\r.q0=p0:=⟨⟨p0⟩,if_pos ⟨by rw [Cf];omega,by rw [maxLen_eq];omega⟩,rfl⟩
theorem ZFF {L:Type} {t:Nat} {l:List (U.Ty t)} {i:Int} {k:U.Ty t->Tr U L} {Q:L->Prop} (h:0<=i/\i<(l.length:Int)) (g:∀hi:i.toNat<l.length,Tot (k l[i.toNat]) Q):Tot (.bind t (l[Int.toNat i]?) k) Q:=by
 have hi:i.toNat<l.length:=by omega
 exact⟨l[i.toNat],List.getElem?_eq_getElem hi,g hi⟩
theorem rD {L:Type} {l:List Aw} {i:Int} {k:Aw->Tr U L} {Q:L->Prop} (h:0<=i/\i<(l.length:Int)) (g:∀hi:i.toNat<l.length,Tot (k l[i.toNat]) Q):Tot (Tr.bind (U:=U) 68 (l[Int.toNat i]? : Option Aw) k) Q:=ZFF (t:=68) h g
theorem take_set {α:Type} {a b:List α} {n:Nat} (hn:n<b.length) (hl:a.length=b.length) (h:a.take n=b.take n):(a.set n b[n]).take (n+1)=b.take (n+1):=by
 apply List.ext_getElem?
 intro j
 rw [List.getElem?_take,List.getElem?_take]
 by_cases hj:j<n+1
 ·rw [if_pos hj,if_pos hj,List.getElem?_set]
  by_cases hjn:n=j
  ·subst hjn
   rw [if_pos rfl,if_pos (by omega)]
   exact(List.getElem?_eq_getElem hn).symm
  ·rw [if_neg hjn]
   have:=congrArg (fun l=>l[j]?) h
   simp only [List.getElem?_take] at this
   rw [if_pos (by omega),if_pos (by omega)] at this
   exact this
 ·rw [if_neg hj,if_neg hj]
theorem Zty (k:Int) (p0:A8) (h0:BQ k p0) (h1:0<=k) (h2:k<=1000000):∃r,Z1t p0=some r/\(r.q0=⟨p0,[]⟩):=by
 have hq:=h0
 dsimp only [BQ,DT,BJ] at hq
 have hpk:∀p∈p0.BB.Az,p.Payload.length<=1000000:=fun p hp=>by
  have:=(h0.1.2.2.2.1 p hp).2.2.2.1
  omega
 refine BD (T:=nU) (post:=fun r=>r.q0=⟨p0,[]⟩) (fun p=>match p with | .b0 a0=>a0=p0 | .b1 a0 a1 a2 a3 a4=>a4=p0/\a1=p0.BB.Az/\a2=(p0.BB.Az.length:Int)/\a0.length=p0.BB.Az.length/\0<=a3/\a3<=(p0.BB.Az.length:Int)/\a0.take a3.toNat=p0.BB.Az.take a3.toNat)
  (fun p=>match p with | .b0 _=>(1,0,0) | .b1 a0 a1 a2 a3 a4=>(0,(a2 - a3).toNat,0)) ?_ (.b0 p0) rfl
 intro p hp
 cases p with
 | b0 a0=>
  dsimp only at hp
  subst hp
  simp only [nU]
  refine Dn (by simp [kL,kA,Cf,maxLen_eq]<;>omega) ?_
  refine Dn (by simp [kL,kA,Cf,maxLen_eq]<;>omega) ?_
  refine ET ?_
  exact⟨⟨rfl,rfl,rfl,by rw [List.length_replicate];omega,by omega,by omega,by simp⟩,Zf0 (by omega)⟩
 | b1 a0 a1 a2 a3 a4=>
  dsimp only at hp
  obtain⟨rfl,rfl,rfl,hl,g1,g2,ht⟩:=hp
  simp only [nU]
  refine Ec (fun h=>?_) (fun h=>?_)
  ·simp only [decide_eq_true_eq,decide_eq_false_iff_not] at h
   refine Dn (by simp [kL,kA,Cf,maxLen_eq]<;>omega) ?_
   refine rD (by omega) (fun hi=>?_)
   refine Aq (Zgr _ (hpk _ (List.getElem_mem hi))) (fun(v:RD) hm hv=>?_)
   refine Dn (by simp [kL,kA,Cf,maxLen_eq]<;>omega) ?_
   refine Dn (by simp [kL,kA,Cf,maxLen_eq]<;>omega) ?_
   refine Dn (by simp [kL,kA,Cf,maxLen_eq]<;>omega) ?_
   refine rD (by omega) (fun hi' =>?_)
   refine Dn (by simp [kL,kA,Cf,maxLen_eq]<;>omega) ?_
   refine Dn (by simp [kL,kA,Cf,maxLen_eq]<;>omega) ?_
   refine ET ?_
   dsimp only
   rw [Bv (by omega) (by omega),hv]
   refine⟨⟨rfl,rfl,rfl,by rw [List.length_set];exact hl,by omega,by omega,?_⟩,ZeW (by omega)⟩
   rw [show (a3+1).toNat=a3.toNat+1 by omega]
   exact take_set hi hl ht
  ·simp only [decide_eq_true_eq,decide_eq_false_iff_not] at h
   have he:a0=a4.BB.Az:=by
    have e1:a3.toNat=a0.length:=by omega
    have e2:a3.toNat=a4.BB.Az.length:=by omega
    have h1:=ht
    rw [e1,List.take_length] at h1
    rw [h1,hl,List.take_length]
   subst he
   refine Aq (Z58 _ (by omega)) (fun(v1:Qy) hm1 hv1=>?_)
   refine Aq (Zgd _ (by omega)) (fun(v2:Vu) hm2 hv2=>?_)
   refine Aq (Zgi _ (by omega)) (fun(v3:Vw) hm3 hv3=>?_)
   refine Aq (Z58 _ (by omega)) (fun(v4:Qy) hm4 hv4=>?_)
   refine Dn (by simp) ?_
   refine ET ?_
   dsimp only
   rw [hv1,hv2,hv3,hv4]
theorem Zjo (p0:List Aw) (h0:p0.length<=64) (h1:J5 p0):∃r,zN p0=some r/\r=p0:=by
 refine BD (T:=jW) (post:=fun r=>r=p0) (fun p=>match p with | .b0 a0=>a0=p0 | .b1 a0 a1 a2=>a0=p0/\0<=a2/\a2<=(p0.length:Int)/\a1=p0.take a2.toNat)
  (fun p=>match p with | .b0 _=>(1,0,0) | .b1 a0 a1 a2=>(0,((a0.length:Int) - a2).toNat,0)) ?_ (.b0 p0) rfl
 intro p hp
 cases p with
 | b0 a0=>
  dsimp only at hp
  subst hp
  simp only [jW]
  refine Dn (by simp [kL,kA,Cf,maxLen_eq]<;>omega) ?_
  refine ET ?_
  exact⟨⟨rfl,by omega,by omega,by simp⟩,Zf0 (by omega)⟩
 | b1 a0 a1 a2=>
  dsimp only at hp
  obtain⟨rfl,g1,g2,rfl⟩:=hp
  simp only [jW]
  refine Ec (fun h=>?_) (fun h=>?_)
  ·simp only [decide_eq_true_eq,decide_eq_false_iff_not] at h
   refine Dn (by simp [kL,kA,Cf,maxLen_eq]<;>omega) ?_
   refine rD (by omega) (fun hi=>?_)
   have hpl:=(h1 _ (List.getElem_mem hi)).2.2.2.1
   refine Dn (by simp [kL,kA,Cf,maxLen_eq]<;>omega) ?_
   refine rD (by omega) (fun hi' =>?_)
   refine Dn (by simp [kL,kA,Cf,maxLen_eq]<;>omega) ?_
   refine Dn (by simp [kL,kA,Cf,maxLen_eq]<;>omega) ?_
   refine Dn (by simp) ?_
   refine Dn (by simp [kL,kA,Cf,maxLen_eq]<;>omega) ?_
   refine Dn (by simp [kL,kA,Cf,maxLen_eq]<;>omega) ?_
   refine Dn (by simp [kL,kA,Cf,maxLen_eq]<;>omega) ?_
   refine Dn (by simp) ?_
   refine ET ?_
   dsimp only
   rw [Bv (by omega) (by omega),List.nil_append]
   refine⟨⟨rfl,by omega,by omega,?_⟩,ZeW (by omega)⟩
   rw [show (a2+1).toNat=a2.toNat+1 by omega]
   first|exact List.take_append_getElem hi|exact(List.take_append_getElem hi).symm|simp
  ·simp only [decide_eq_true_eq,decide_eq_false_iff_not] at h
   refine Dn (by simp [kL,kA,Cf,maxLen_eq]<;>omega) ?_
   refine ET ?_
   dsimp only
   rw [show a2.toNat=a0.length by omega,List.take_length]
theorem HY {n:Int} (h : -9223372036854775808<=n) (h' : n<=9223372036854775807):AP n=n:=by
 simp only [AP,IntKind.wrap,IntKind.signed,IntKind.bits]
 simp
 omega
theorem QU (i:Nat) (h:i<4611686018427387904):AP ((i:Int)+1)=((i+1:Nat):Int):=by
 rw [HY (by omega) (by omega)];simp
theorem wu64 {n:Int} (h:0<=n) (h' : n<18446744073709551616):IntKind.wrap .u64 n=n:=by rw [IntKind.wrap_u64];exact Int.emod_eq_of_lt h h'
theorem JZ {n:Int} (h:0<=n) (h' : n<4294967296):IntKind.wrap .u32 n=n:=by rw [IntKind.wrap_u32];exact Int.emod_eq_of_lt h h'
theorem wu16 {n:Int} (h:0<=n) (h' : n<65536):IntKind.wrap .u16 n=n:=by rw [IntKind.wrap_u16];exact Int.emod_eq_of_lt h h'
theorem Pn {n:Int} (h:0<=n) (h' : n<256):IntKind.wrap .u8 n=n:=by rw [IntKind.wrap_u8];exact Int.emod_eq_of_lt h h'
theorem vX (n:Int):0<=IntKind.wrap .u64 n/\IntKind.wrap .u64 n<18446744073709551616:=by rw [IntKind.wrap_u64];omega
theorem r32 (n:Int):0<=IntKind.wrap .u32 n/\IntKind.wrap .u32 n<4294967296:=by rw [IntKind.wrap_u32];omega
theorem r8 (n:Int):0<=IntKind.wrap .u8 n/\IntKind.wrap .u8 n<256:=by rw [IntKind.wrap_u8];omega
theorem b64 (o:BinOp) (a b:Int):0<=bits o .u64 a b/\bits o .u64 a b<18446744073709551616:=vX _
theorem b32 (o:BinOp) (a b:Int):0<=bits o .u32 a b/\bits o .u32 a b<4294967296:=r32 _
theorem b8 (o:BinOp) (a b:Int):0<=bits o .u8 a b/\bits o .u8 a b<256:=r8 _
theorem wraps_u64 (n:Int) (h₀:0<=n) (h₁:n<2 ^ 64):IntKind.u64.wrap n=n:=wu64 h₀ h₁
theorem wraps_u32 (n:Int) (h₀:0<=n) (h₁:n<2 ^ 32):IntKind.u32.wrap n=n:=JZ h₀ h₁
theorem ZeZ (k:IntKind) (j:Nat) (hj:j<=k.bits) (hk:∀n:Int,0<=n->n<2 ^ j->k.wrap n=n) (i:Nat) (hi:i<=j)
  (x y:Int) (hy₀:0<=y) (hy:y % 2 ^ i=0) (hy₁:y<2 ^ j) (hx₀:0<=x) (hx:x<2 ^ i):bits .or k x y=x+y:=by
 have hx₁:x<2 ^ j:=Int.lt_of_lt_of_le hx (by exact_mod_cast Nat.pow_le_pow_right (by decide) hi)
 have h:=bits_join k j hj hk i y x hy₀ hy hy₁ hx₀ hx hx₁
 obtain⟨a,rfl⟩:=Int.eq_ofNat_of_zero_le hx₀
 obtain⟨b,rfl⟩:=Int.eq_ofNat_of_zero_le hy₀
 rw [(bits_nat k j hj hk b a (by exact_mod_cast hy₁) (by exact_mod_cast hx₁)).2] at h
 rw [(bits_nat k j hj hk a b (by exact_mod_cast hx₁) (by exact_mod_cast hy₁)).2,Nat.or_comm,h,Int.add_comm]
theorem ZEQ {i n:Nat} (h:i<n):decide (i<n)=true:=decide_eq_true h
theorem ZCA {i n:Nat} (h:n<=i):decide (i<n)=false:=decide_eq_false (by omega)
theorem SA:1000000000<=lim:=by decide
theorem Rj:1000000000<=maxLen:=by decide
theorem Z45 (a b k:Nat) (h:a+b<=1000000) (hk:k<=1000):(decide ((a+b)*k<=lim)&&decide (a+b<=maxLen))=true:=by
 have h1:(a+b)*k<=1000000000:=Nat.le_trans (Nat.mul_le_mul h hk) (by decide)
 exact Bool.and_eq_true_iff.mpr ⟨decide_eq_true (Nat.le_trans h1 SA),decide_eq_true (Nat.le_trans (Nat.le_trans h (by decide)) Rj)⟩
theorem ZDl (a k:Nat) (h:a<=1000000) (hk:k<=1000):(decide (a*k<=lim)&&decide (a<=maxLen))=true:=by
 simpa using Z45 0 a k (by simpa using h) hk
theorem SL:(∀n:Nat,(0:Int)<=(n:Int))/\(∀n m:Nat,((n:Int)<(m:Int))↔n<m)/\(∀n:Nat,Int.toNat (n:Int)=n) /\
  (∀(α:Type) (l:List α) (i:Nat) (h:i<l.length),l[i]? = some l[i])/\(∀(α:Type) [BEq α] [ReflBEq α] (a:α),(a==a)=true) /\
  (∀a:Bool,(a&&true)=a)/\(∀a:Bool,(true&&a)=a)/\(∀(α:Type) (a b:List α),(a++b).length=a.length+b.length)/\(∀(α:Type) (a:List α),[]++a=a)/\(∀n:Nat,0+n=n) /\
  (∀a b k:Nat,a+b<=1000000->k<=1000->(decide ((a+b)*k<=lim)&&decide (a+b<=maxLen))=true)/\(∀a k:Nat,a<=1000000->k<=1000->(decide (a*k<=lim)&&decide (a<=maxLen))=true) /\
  (∀i:Nat,i<4611686018427387904->AP ((i:Int)+1)=((i+1:Nat):Int))/\(∀i n:Nat,i<n->decide (i<n)=true)/\(∀i n:Nat,n<=i->decide (i<n)=false):=
 ⟨Int.natCast_nonneg,@Int.ofNat_lt,Int.toNat_natCast,fun _ _ _ h=>List.getElem?_eq_getElem h,fun _ _ _ a=>beq_self_eq_true a,Bool.and_true,Bool.true_and,fun _ _ _=>List.length_append,fun _ a=>List.nil_append a,Nat.zero_add,Z45,ZDl,QU,fun _ _ h=>ZEQ h,fun _ _ h=>ZCA h⟩
theorem SM:(∀(α β:Type) (a:α) (f:α->Option β),(some a).bind f=f a)/\(decide True=true)/\(decide False=false)/\(∀(α:Type) (a b:α),cond true a b=a)/\(∀(α:Type) (a b:α),cond false a b=b) /\
  (∀p:Prop,(True/\p)=p)/\(∀p:Prop,(p/\True)=p)/\(∀α:Type,([]:List α).length=0)/\(∀(α:Type) (a:α) (l:List α),(a::l).length=l.length+1)/\((!true)=false)/\((!false)=true):=
 ⟨fun _ _ _ _=>rfl,rfl,rfl,fun _ _ _=>rfl,fun _ _ _=>rfl,true_and,and_true,fun _=>rfl,fun _ _ _=>rfl,rfl,rfl⟩
theorem Z2T {S R α:Type} (F:S->Int->Option R) (xs:List α) (step:S->α->S) (fin:S->Option R) (Inv:Nat->S->Prop)
  (hstep:∀(i:Nat) s (h:i<xs.length),Inv i s->F s i=F (step s xs[i]) ((i+1:Nat):Int)/\Inv (i+1) (step s xs[i]))
  (hfin:∀s,Inv xs.length s->F s (xs.length:Int)=fin s) (s:S) (h0:Inv 0 s):F s 0=fin (xs.foldl step s)/\Inv xs.length (xs.foldl step s):=by
 have key:∀(ys zs:List α) (s:S),xs=ys++zs->Inv ys.length s->F s (ys.length:Int)=fin (zs.foldl step s)/\Inv xs.length (zs.foldl step s):=by
  intro ys zs
  induction zs generalizing ys with
  | nil=>
   intro s hx hi
   rw [List.append_nil] at hx
   subst hx
   exact⟨hfin s hi,hi⟩
  | cons z zs ih=>
   intro s hx hi
   have hl:ys.length<xs.length:=by rw [hx];simp
   have hz:xs[ys.length]=z:=by simp [hx]
   obtain⟨h1,h2⟩:=hstep ys.length s hl hi
   rw [hz] at h1 h2
   rw [h1]
   have:=ih (ys++[z]) (step s z) (by simp [hx]) (by simpa using h2)
   simpa using this
 exact key [] xs s rfl h0
theorem ZyA {α β:Type} (f:α->List β) (xs:List α) (s:List β):xs.foldl (fun s x=>s++f x) s=s++xs.flatMap f:=by
 induction xs generalizing s with
 | nil=>simp
 | cons x xs ih=>simp [List.foldl_cons,ih,List.append_assoc]
def Bytes (xs:List Int):Prop:=∀x∈xs,0<=x/\x<256
theorem Bytes.nil:Bytes []:=fun _ h=>by cases h
theorem Bytes.cons {x:Int} {xs:List Int} (h:0<=x/\x<256) (hx:Bytes xs):Bytes (x::xs):=fun y hy=>by
 rcases List.mem_cons.1 hy with rfl|hy
 ·exact h
 ·exact hx y hy
theorem Bytes.app {xs ys:List Int} (hx:Bytes xs) (hy:Bytes ys):Bytes (xs++ys):=fun y h=>(List.mem_append.1 h).elim (hx y) (hy y)
theorem Bytes.sub {xs ys:List Int} (hx:Bytes xs) (h:∀y∈ys,y∈xs):Bytes ys:=fun y hy=>hx y (h y hy)
theorem Bytes.take {xs:List Int} (hx:Bytes xs) (n:Nat):Bytes (xs.take n):=hx.sub fun _ h=>List.mem_of_mem_take h
theorem Bytes.drop {xs:List Int} (hx:Bytes xs) (n:Nat):Bytes (xs.drop n):=hx.sub fun _ h=>List.mem_of_mem_drop h
theorem Bytes.get {xs:List Int} (hx:Bytes xs) (i:Nat) (h:i<xs.length):0<=xs[i]/\xs[i]<256:=hx _ (List.getElem_mem h)
theorem Bytes.flat {α:Type} (f:α->List Int) (l:List α) (h:∀x∈l,Bytes (f x)):Bytes (l.flatMap f):=fun y hy=>by
 obtain⟨x,hx,hy⟩:=List.mem_flatMap.1 hy
 exact h x hx y hy
def val:List Int->Int
 | []=>0
 | b::r=>b+256*val r
theorem Zeu {xs:List Int} (h:Bytes xs):0<=val xs/\val xs<256 ^ xs.length:=by
 induction xs with
 | nil=>simp [val]
 | cons x xs ih=>
  have h1:=ih fun y hy=>h y (List.mem_cons_of_mem _ hy)
  have h2:=h x List.mem_cons_self
  simp only [val,List.length_cons]
  rw [Int.pow_succ]
  omega
theorem val_append (xs:List Int) (ys:List Int):val (xs++ys)=val xs+256 ^ xs.length*val ys:=by
 induction xs with
 | nil=>simp [val]
 | cons x xs ih=>
  simp only [List.cons_append,val,ih,List.length_cons]
  rw [Int.pow_succ,Int.mul_add,<- Int.mul_assoc,Int.mul_comm 256 (256 ^ xs.length),Int.add_assoc]
theorem Zz9 {n:Nat} (h:n<=8):(256:Int) ^ n<=18446744073709551616:=
 (by decide:∀n:Fin 9,(256:Int) ^ n.1<=18446744073709551616) ⟨n,by omega⟩
theorem Z40 {xs:List Int} (h:Bytes xs) (hl:xs.length<=8):0<=val xs/\val xs<18446744073709551616:=by
 have h1:=Zeu h
 exact⟨h1.1,Int.lt_of_lt_of_le h1.2 (Zz9 hl)⟩
def num:Nat->Int->List Int
 | 0,_=>[]
 | n+1,v=>(v % 256)::num n (v / 256)
theorem Eo (n:Nat) (v:Int):(num n v).length=n:=by
 induction n generalizing v with
 | zero=>rfl
 | succ n ih=>simp [num,ih]
theorem Jb (n:Nat) (v:Int):Bytes (num n v):=by
 induction n generalizing v with
 | zero=>exact Bytes.nil
 | succ n ih=>exact Bytes.cons (by omega) (ih _)
theorem Z3d (n:Nat) (v:Int):num (n+1) v=num n v++[v / 256 ^ n % 256]:=by
 induction n generalizing v with
 | zero=>simp [num]
 | succ n ih=>
  have e:num (n+2) v=(v % 256)::num (n+1) (v / 256):=rfl
  rw [e,ih]
  simp only [num,List.cons_append]
  rw [Int.pow_succ,Int.mul_comm,<- Int.ediv_ediv_of_nonneg (by decide)]
theorem ZAs (n m:Nat) (v:Int) (h:n<=m):(num m v).take n=num n v:=by
 induction n generalizing m v with
 | zero=>simp [num]
 | succ n ih=>
  obtain⟨m,rfl⟩:∃k,m=k+1:=⟨m - 1,by omega⟩
  simp [num,ih m _ (by omega)]
theorem via {α:Type} {a b:α} (m:α) (h1:a=m) (h2:b=m):a=b:=h1.trans h2.symm
theorem and32 (x:Int) (h:0<=x) (h' : x<18446744073709551616):bits .and .u64 x (IntKind.wrap .u64 ((IntKind.wrap .u64 ((1:Int)*2 ^ (min (Int.toNat 32) (IntKind.bits .u64)))) - (1:Int)))=x % 4294967296:=by
 have:=bits_mask .u64 64 (by decide) wraps_u64 32 (by decide) x h h'
 exact this
theorem Z7B (x:Int) (h:0<=x) (h' : x<18446744073709551616):QG x 32=some (x % 4294967296):=(AZ _ _).trans (by
 simp only [Z0B,DN]
 rw [show decide ((32:Int)<=0)=false from rfl,show decide ((32:Int)>=64)=false from rfl,show decide ((0:Int)<=32)=true from rfl]
 simp only [cond_false,cond_true]
 rw [and32 x h h'])
theorem or0 (x:Int) (h:0<=x) (h' : x<18446744073709551616):bits .or .u64 x 0=x:=by
 obtain⟨a,rfl⟩:=Int.eq_ofNat_of_zero_le h
 have:=(bits_nat .u64 64 (by decide) wraps_u64 a 0 (show a<18446744073709551616 by omega) (by decide)).2
 rw [Nat.or_zero] at this
 exact this
def rotl (k:Int) (p q:Nat):Int:=bits .or .u64 (IntKind.wrap .u64 (k*2 ^ p)) (Int.fdiv k (2 ^ q))
theorem rotl0 (k:Int) (h:0<=k) (h' : k<18446744073709551616):rotl k 0 64=k:=by
 unfold rotl
 rw [Int.pow_zero,Int.mul_one,wu64 h h',Int.fdiv_eq_ediv_of_nonneg _ (by decide),show (2:Int) ^ 64=18446744073709551616 from rfl,Int.ediv_eq_zero_of_lt h h',or0 k h h']
theorem ZDZ (k:Int) (h:0<=k) (h' : k<18446744073709551616) (i:Int) (h0:0<=i) (h8:i<8) :
  ∃lo,(0<=lo/\lo<4294967296)/\U9 k i=some lo/\∃x,TF k (Int.tmod (AP ((11:Int)*(Int.tmod i (64:Int)))) (64:Int))=some x/\∃y,QG x 32=some y/\IntKind.wrap .u32 y=lo:=by
 have key:∀x,0<=x->x<18446744073709551616->AV bK (.b1 x)=some (x % 4294967296):=fun x hx hx' =>(AZ _ _).trans (by
  simp only [bK,DN]
  rw [Int.tmod_eq_emod_of_nonneg hx,JZ (by omega) (by omega)])
 have hi:i=0\/i=1\/i=2\/i=3\/i=4\/i=5\/i=6\/i=7:=by omega
 have low:∀x,0<=x->x<18446744073709551616->∃y,QG x 32=some y/\IntKind.wrap .u32 y=x % 4294967296:=fun x hx hx' =>⟨_,Z7B x hx hx',JZ (by omega) (by omega)⟩
 have fin:∀p q:Nat,∀n:Int,TF k n=some (rotl k p q)->U9 k i=AV bK (.b1 (rotl k p q))->Int.tmod (AP ((11:Int)*(Int.tmod i (64:Int)))) (64:Int)=n ->
   ∃lo,(0<=lo/\lo<4294967296)/\U9 k i=some lo/\∃x,TF k (Int.tmod (AP ((11:Int)*(Int.tmod i (64:Int)))) (64:Int))=some x/\∃y,QG x 32=some y/\IntKind.wrap .u32 y=lo:=fun p q n h1 h2 h3=>by
  have hb:0<=rotl k p q/\rotl k p q<18446744073709551616:=b64 _ _ _
  obtain⟨y,hy,hy'⟩:=low _ hb.1 hb.2
  exact⟨rotl k p q % 4294967296,by omega,by rw [h2,key _ hb.1 hb.2],_,by rw [h3];exact h1,y,hy,hy'⟩
 rcases hi with rfl|rfl|rfl|rfl|rfl|rfl|rfl|rfl
 ·refine fin 0 64 0 ((AZ _ _).trans rfl) ?_ rfl
  rw [rotl0 k h h']
  exact(AZ _ _).trans rfl
 ·exact fin 11 53 11 ((AZ _ _).trans rfl) ((AZ _ _).trans rfl) rfl
 ·exact fin 22 42 22 ((AZ _ _).trans rfl) ((AZ _ _).trans rfl) rfl
 ·exact fin 33 31 33 ((AZ _ _).trans rfl) ((AZ _ _).trans rfl) rfl
 ·exact fin 44 20 44 ((AZ _ _).trans rfl) ((AZ _ _).trans rfl) rfl
 ·exact fin 55 9 55 ((AZ _ _).trans rfl) ((AZ _ _).trans rfl) rfl
 ·exact fin 2 62 2 ((AZ _ _).trans rfl) ((AZ _ _).trans rfl) rfl
 ·exact fin 13 51 13 ((AZ _ _).trans rfl) ((AZ _ _).trans rfl) rfl
theorem turn7 (x:Int):Po x 7=Nr x 7:=by
 rw [show Po x 7=_ from AZ _ _,show Nr x 7=_ from AZ _ _]
 rfl
theorem ZES (x:Int):Po x 16=Nr x 16:=by
 rw [show Po x 16=_ from AZ _ _,show Nr x 16=_ from AZ _ _]
 rfl
theorem ZCU (k:Int) (h:0<=k) (h' : k<18446744073709551616) (i:Int) (h0:0<=i) (h8:i<8) (a:Int):nS k i a=XH k i a:=by
 obtain⟨lo,hlo,h1,x,h2,y,h3,h4⟩:=ZDZ k h h' i h0 h8
 refine via ((Nr (IntKind.wrap .u32 (a+lo)) 7).bind fun x2=>(Nr lo 16).bind fun x3=>some (bits .xor .u32 (IntKind.wrap .u32 (x2*(2654435761:Int))) x3)) ((AZ _ _).trans ?_) ((AZ _ _).trans ?_)
 ·simp only [Z0X,DN,h1,Option.bind_some]
  rfl
 ·simp only [ZU,DN,h2,h3,h4,Option.bind_some,turn7,ZES]
  rfl
theorem ZFW (k:Int) (h:0<=k) (h' : k<18446744073709551616):∀(n:Nat) (i l r:Int),0<=i->8 - i<=n->0<=l->l<4294967296->0<=r->r<4294967296->AV Ri (.b1 k l r i)=AV IQ (.b1 k i ⟨l,r⟩):=by
 have fin:∀i l r:Int,¬i<8->0<=l->l<4294967296->0<=r->r<4294967296->AV Ri (.b1 k l r i)=AV IQ (.b1 k i ⟨l,r⟩):=fun i l r hi hl hl' hr hr' =>by
  refine via (some (l*4294967296+r)) ((AZ _ _).trans ?_) ((AZ _ _).trans ?_)
  ·simp only [Ri,DN]
   rw [decide_eq_false hi,wu64 (n:=l) (by omega) (by omega),wu64 (n:=r) (by omega) (by omega),wu64 (n:=l*4294967296) (by omega) (by omega),wu64 (by omega) (by omega)]
   rfl
  ·simp only [IQ,DN]
   rw [decide_eq_false hi]
   simp only [cond_false]
   rw [show Vx ⟨l,r⟩=some (l*4294967296+r) from(AZ _ _).trans (by
    simp only [jC,DN]
    rw [wu64 (n:=l) (by omega) (by omega),wu64 (n:=r) (by omega) (by omega),show (2:Int) ^ (32:Nat)=4294967296 from rfl,wu64 (n:=l*4294967296) (by omega) (by omega)]
    rw [bits_join .u64 64 (by decide) wraps_u64 32 (l*4294967296) r (by omega) (by omega) (by omega) hr (by omega) (by omega)])]
   rfl
 intro n
 induction n with
 | zero=>intro i l r h0 h8 hl hl' hr hr';exact fin i l r (by omega) hl hl' hr hr'
 | succ n ih=>
  intro i l r h0 h8 hl hl' hr hr'
  by_cases hi:i<8
  ·refine via ((XH k i r).bind fun x=>AV IQ (.b1 k (AP (i+1)) ⟨r,bits .xor .u32 l x⟩)) ((AZ _ _).trans ?_) ((AZ _ _).trans ?_)
   ·simp only [Ri,DN]
    rw [decide_eq_true hi,ZCU k h h' i h0 hi]
    simp only [cond_true]
    congr 1
    funext x
    have hx:=b32 .xor l x
    rw [HY (by omega) (by omega)]
    exact ih (i+1) r (bits .xor .u32 l x) (by omega) (by omega) hr hr' hx.1 hx.2
   ·simp only [IQ,DN]
    rw [decide_eq_true hi]
    rfl
  ·exact fin i l r hi hl hl' hr hr'
theorem e_Mix (k x:Int) (h:0<=k) (h' : k<18446744073709551616) (hx:0<=x) (hx' : x<18446744073709551616):QP k x=KD k x:=by
 refine via (AV IQ (.b1 k 0 ⟨x / 4294967296,x % 4294967296⟩)) ((AZ _ _).trans ?_) ((AZ _ _).trans ?_)
 ·simp only [Ri,DN]
  rw [Int.tdiv_eq_ediv_of_nonneg hx,Int.tmod_eq_emod_of_nonneg hx,wu64 (n:=x / 4294967296) (by omega) (by omega),JZ (n:=x / 4294967296) (by omega) (by omega),JZ (n:=x % 4294967296) (by omega) (by omega)]
  exact ZFW k h h' 8 0 _ _ (by omega) (by omega) (by omega) (by omega) (by omega) (by omega)
 ·simp only [IQ,DN]
  rw [show lT x=some ⟨x / 4294967296,x % 4294967296⟩ from(AZ _ _).trans (by
   simp only [Z08,DN,Z7B x hx hx',Option.bind_some]
   rw [Int.fdiv_eq_ediv_of_nonneg _ (by decide),show (2:Int) ^ (32:Nat)=4294967296 from rfl,JZ (n:=x / 4294967296) (by omega) (by omega),JZ (n:=x % 4294967296) (by omega) (by omega)])]
  rfl
noncomputable def MV (k x:Int):Int:=(KD k x).getD 0
theorem VV (k x:Int):KD k x=some (MV k x):=by
 obtain⟨r,hr⟩:=Zfh k x
 rw [MV,hr]
 rfl
theorem ZAU (k:Int):∀(n:Nat) (i:Int) (h:Io) (r:Int),0<=i->8 - i<=n->AV IQ (.b1 k i h)=some r->0<=r/\r<18446744073709551616:=by
 have fin:∀(i:Int) (h:Io) (r:Int),¬i<8->AV IQ (.b1 k i h)=some r->0<=r/\r<18446744073709551616:=fun i h r hi hr=>by
  rw [AZ] at hr
  simp only [IQ,DN] at hr
  rw [decide_eq_false hi,show Vx h=_ from AZ _ _] at hr
  simp only [jC,DN,cond_false,Option.bind_some,Option.some.injEq] at hr
  rw [<- hr]
  exact b64 _ _ _
 intro n
 induction n with
 | zero=>intro i h r h0 h8 hr;exact fin i h r (by omega) hr
 | succ n ih=>
  intro i h r h0 h8 hr
  by_cases hi:i<8
  ·rw [AZ] at hr
   simp only [IQ,DN] at hr
   rw [decide_eq_true hi,HY (by omega) (by omega)] at hr
   simp only [cond_true] at hr
   obtain⟨x,_,hx⟩:=Option.bind_eq_some_iff.1 hr
   exact ih _ _ _ (by omega) (by omega) hx
  ·exact fin i h r hi hr
theorem rH (k x:Int):0<=MV k x/\MV k x<18446744073709551616:=by
 have h:=VV k x
 rw [show KD k x=_ from AZ _ _] at h
 simp only [IQ,DN] at h
 obtain⟨y,_,hy⟩:=Option.bind_eq_some_iff.1 h
 exact ZAU k 8 0 y _ (by omega) (by omega) hy
def Et (k:Int):Prop:=0<=k/\k<18446744073709551616
theorem qM (k x:Int) (h:Et k) (hx:Et x):QP k x=some (MV k x):=(e_Mix k x h.1 h.2 hx.1 hx.2).trans (VV k x)
theorem Z2Y {R α β:Type} (F:List β->Int->Option R) (xs:List α) (f:α->List β) (fin:List β->Option R) (B:Nat)
  (hstep:∀(i:Nat) s (h:i<xs.length),s.length+(f xs[i]).length<=B->F s i=F (s++f xs[i]) ((i+1:Nat):Int))
  (hfin:∀s,F s (xs.length:Int)=fin s) (s:List β) (h0:s.length+(xs.flatMap f).length<=B):F s 0=fin (s++xs.flatMap f):=by
 have key:=Z2T F xs (fun s x=>s++f x) fin (fun i s=>s.length+((xs.drop i).flatMap f).length<=B)
  (fun i s h hi=>by
   simp only [List.drop_eq_getElem_cons h,List.flatMap_cons,List.length_append] at hi
   exact⟨hstep i s h (by omega),by simp only [List.length_append];omega⟩)
  (fun s _=>hfin s) s (by simpa using h0)
 rw [key.1,ZyA]
theorem tV (ls:List (List Int)) (h:ls.flatten.length<=100000) (hl:ls.length<=100000):UC ls=some ls.flatten:=(AZ _ _).trans (by
 simp only [XB,DN,SL,SM]
 have:=Z2Y (fun s i=>AV XB (.b1 s ls ls.length i)) ls id some 100000 (fun i s hi hs=>(AZ _ _).trans (by
   simp only [id] at hs
   simp(disch:=omega) only [XB,hi,id,DN,SL,SM]))
  (fun s=>(AZ _ _).trans (by simp only [XB,Int.lt_irrefl,DN,SL,SM])) [] (by simpa [List.flatMap_id] using h)
 simpa [List.flatMap_id] using this)
theorem ZDK (n:Int) (h:1<=n) (h' : n<=8):ZG n=some true:=(AZ _ _).trans (by
 simp only [Z7D,DN,decide_eq_true (show n>=1 from h),decide_eq_true h',cond_true])
theorem vO (j:Nat):(2:Int) ^ (8*j)=256 ^ j:=by rw [Int.pow_mul];rfl
theorem sh8 (v:Int) (j:Nat) (hj:j<=8):Int.fdiv v (2 ^ (min (Int.toNat (AP ((8:Int)*(j:Int)))) (IntKind.bits .u64)))=v / 256 ^ j:=by
 rw [HY (by omega) (by omega),show Int.toNat (8*(j:Int))=8*j by omega,show min (8*j) (IntKind.bits .u64)=8*j from Nat.min_eq_left (by show 8*j<=64;omega),vO,Int.fdiv_eq_ediv_of_nonneg _ (Int.le_of_lt (by exact_mod_cast Nat.pow_pos (by decide)))]
theorem put3 (fs:List Bd) (s:List Int) (n:Int) (i m:Nat) (x:Bd) (hm:m<=8) (hs:s.length<=1000) (hi:i<=1000):∀(d j:Nat),j+d=m ->
  AV Kw (.b3 (s++num j x.Value) fs n i m j x)=AV Kw (.b1 (s++num m x.Value) fs n ((i+1:Nat):Int)):=by
 intro d
 induction d with
 | zero=>
  intro j hj
  obtain rfl:j=m:=by omega
  refine(AZ _ _).trans ?_
  simp(disch:=omega) only [Kw,Int.lt_irrefl,DN,SL,SM]
 | succ d ih=>
  intro j hj
  rw [<- ih (j+1) (by omega),Z3d,<- List.append_assoc]
  refine(AZ _ _).trans ?_
  have hjm:j<m:=by omega
  have h0:decide (0<=AP (8*(j:Int)))=true:=decide_eq_true (by rw [HY (by omega) (by omega)];omega)
  have hl:=Eo j x.Value
  simp(disch:=omega) only [Kw,hjm,h0,sh8,IntKind.wrap_u8,hl,DN,SL,SM]
def Hr (f:Bd):List Int:=num f.Size.toNat f.Value
theorem Z4m (fs:List Bd) (hf:∀f∈fs,1<=f.Size/\f.Size<=8/\0<=f.Value/\f.Value<256 ^ f.Size.toNat) (hl:(fs.flatMap Hr).length<=1000) (hn:fs.length<=1000) :
  QF fs=some (fs.flatMap Hr,0):=(AZ _ _).trans (by
 simp only [Kw,DN,SL,SM]
 have:=Z2Y (fun s i=>AV Kw (.b1 s fs fs.length i)) fs Hr (fun s=>some (s,0)) 1000 (fun i s hi hs=>(AZ _ _).trans (by
   obtain⟨h1,h8,h0,hv⟩:=hf fs[i] (List.getElem_mem hi)
   simp(disch:=omega) only [Kw,hi,ZDK _ h1 h8,DN,SL,SM]
   have key:AV Kw (.b2 s fs fs.length i fs[i])=AV Kw (.b1 (s++Hr fs[i]) fs fs.length ((i+1:Nat):Int)):=by
    refine(AZ _ _).trans ?_
    simp(disch:=omega) only [Kw,DN,SL,SM]
    have:=put3 fs s fs.length i fs[i].Size.toNat fs[i] (by omega) (by omega) (by omega) fs[i].Size.toNat 0 (by omega)
    simp only [num,List.append_nil] at this
    rw [show ((fs[i].Size.toNat:Nat):Int)=fs[i].Size by omega] at this
    exact this
   by_cases hs8:fs[i].Size<8
   ·have e:=sh8 fs[i].Value fs[i].Size.toNat (by omega)
    rw [show ((fs[i].Size.toNat:Nat):Int)=fs[i].Size by omega,Int.ediv_eq_zero_of_lt h0 hv] at e
    rw [e,decide_eq_true hs8,show decide (0<=AP (8*fs[i].Size))=true from decide_eq_true (by rw [HY (by omega) (by omega)];omega)]
    exact key
   ·rw [decide_eq_false hs8]
    exact key))
  (fun s=>(AZ _ _).trans (by simp only [Kw,Int.lt_irrefl,DN,SL,SM])) [] (by simpa using hl)
 simpa using this)
theorem ZtN {α:Type} (f:α->List Int) (c:Nat) (xs:List α) (h:∀x∈xs,(f x).length=c):(xs.flatMap f).length=c*xs.length:=by
 induction xs with
 | nil=>simp
 | cons x xs ih=>
  rw [List.flatMap_cons,List.length_append,h x List.mem_cons_self,ih fun y hy=>h y (List.mem_cons_of_mem _ hy),List.length_cons,Nat.mul_succ]
  omega
theorem ZBQ (xs:List Int) (hx:∀x∈xs,Et x) (hl:xs.length<=100):UO xs=some (xs.flatMap (num 8)):=(AZ _ _).trans (by
 simp only [YV,DN,SL,SM]
 have:=Z2Y (fun s i=>AV YV (.b1 s xs xs.length i)) xs (fun x=>[(⟨8,x⟩:Bd)]) (fun s=>(QF s).bind fun r=>some r.1) 1000 (fun i s hi hs=>(AZ _ _).trans (by
   simp only [List.length_cons,List.length_nil] at hs
   simp(disch:=omega) only [YV,hi,DN,SL,SM]))
  (fun s=>(AZ _ _).trans (by simp only [YV,Int.lt_irrefl,DN,SL,SM];rfl)) [] (by
   rw [show (xs.flatMap fun x=>[(⟨8,x⟩:Bd)])=xs.map fun x=>(⟨8,x⟩:Bd) from(List.map_eq_flatMap).symm];simp;omega)
 refine this.trans ?_
 rw [List.nil_append,show (xs.flatMap fun x=>[(⟨8,x⟩:Bd)])=xs.map fun x=>(⟨8,x⟩:Bd) from(List.map_eq_flatMap).symm]
 have e:(xs.map fun x=>(⟨8,x⟩:Bd)).flatMap Hr=xs.flatMap (num 8):=by rw [List.flatMap_map];rfl
 rw [Z4m _ (fun f hf=>by
  obtain⟨x,hx',rfl⟩:=List.mem_map.1 hf
  exact⟨show (1:Int)<=8 by decide,show (8:Int)<=8 by decide,(hx x hx').1,(hx x hx').2⟩) (by rw [e,ZtN _ 8 _ fun x _=>Eo 8 x];omega) (by simp;omega),e]
 rfl)
theorem ZEA (m:Nat) (hm:m<=100) (v:Int) (h:Et v):∀(d j:Nat),j+d=m->AV Ud (.b1 m (v / 256 ^ j) (num j v) j)=some ⟨num m v⟩:=by
 intro d
 induction d with
 | zero=>
  intro j hj
  obtain rfl:j=m:=by omega
  refine(AZ _ _).trans ?_
  simp(disch:=omega) only [Ud,Int.lt_irrefl,DN,SL,SM]
 | succ d ih=>
  intro j hj
  have p:(0:Int)<256 ^ j:=by exact_mod_cast Nat.pow_pos (by decide)
  have q:0<=v / 256 ^ j:=Int.ediv_nonneg h.1 (Int.le_of_lt p)
  have q' : v / 256 ^ j<18446744073709551616:=Int.lt_of_le_of_lt (Int.ediv_le_self _ h.1) h.2
  have hjm:j<m:=by omega
  have hl:=Eo j v
  rw [<- ih (j+1) (by omega),Z3d]
  refine(AZ _ _).trans ?_
  simp(disch:=omega) only [Ud,hjm,hl,Int.tmod_eq_emod_of_nonneg q,Int.tdiv_eq_ediv_of_nonneg q,DN,SL,SM]
  rw [Pn (by omega) (by omega),wu64 (by omega) (by omega),Int.ediv_ediv_of_nonneg (by omega),Int.pow_succ]
theorem uG (m:Nat) (hm:m<=100) (v:Int) (h:Et v):Lh m v=some ⟨num m v⟩:=(AZ _ _).trans (by
 simp only [Ud,DN,SL,SM]
 have:=ZEA m hm v h m 0 (by omega)
 simpa [num] using this)
theorem ZBe (xs:List Int) (hb:Bytes xs) (hl:xs.length<=8):∀n:Nat,n<=xs.length->AV UQ (.b1 xs (val (xs.drop n)) ((n:Int) - 1))=some (val xs):=by
 intro n
 induction n with
 | zero=>
  intro _
  refine(AZ _ _).trans ?_
  simp only [UQ,DN]
  rw [show decide (((0:Nat):Int) - 1>=0)=false from rfl]
  simp
 | succ n ih=>
  intro hn
  have hd:val (xs.drop n)=xs[n]+256*val (xs.drop (n+1)):=by rw [List.drop_eq_getElem_cons (show n<xs.length by omega)];rfl
  have h1:=Z40 (hb.drop n) (by rw [List.length_drop];omega)
  have h2:=Z40 (hb.drop (n+1)) (by rw [List.length_drop];omega)
  have h3:=hb.get n (by omega)
  refine(AZ _ _).trans ?_
  simp only [UQ,DN]
  rw [show ((n+1:Nat):Int) - 1=(n:Int) by omega,show decide ((n:Int)>=0)=true from decide_eq_true (by omega),show decide (0<=(n:Int)/\(n:Int)<(xs.length:Int))=true from decide_eq_true (by omega)]
  simp only [cond_true,Int.toNat_natCast,List.getElem?_eq_getElem (show n<xs.length by omega),Option.bind_some]
  rw [wu64 (n:=val (xs.drop (n+1))*256) (by omega) (by omega),wu64 (n:=xs[n]) (by omega) (by omega),wu64 (by omega) (by omega),HY (by omega) (by omega),show val (xs.drop (n+1))*256+xs[n]=val (xs.drop n) by omega]
  exact ih (by omega)
theorem ZDw (xs:List Int) (hb:Bytes xs) (hl:xs.length<=8):nT xs=some (val xs):=(AZ _ _).trans (by
 simp only [UQ,DN]
 have:=ZBe xs hb hl xs.length (Nat.le_refl _)
 rw [List.drop_of_length_le (Nat.le_refl _)] at this
 rw [HY (by omega) (by omega)]
 exact this)
def vC (xs:List Int) (g:Nat):Int:=val ((xs.drop (8*g)).take 8)
theorem ZBu (ys:List Int) (hb:Bytes ys) (hl:ys.length<=8):∀m:Nat,m<=ys.length->JV ys m=val (ys.take m):=by
 intro m
 induction m with
 | zero=>intro _;simp [JV,val]
 | succ m ih=>
  intro hm
  have hx:=hb.get m (by omega)
  have hv:=Zeu (hb.take m)
  have hv2:=Z40 (hb.take (m+1)) (by rw [List.length_take];omega)
  have e:val (ys.take (m+1))=val (ys.take m)+256 ^ m*ys[m]:=by
   rw [List.take_add_one,List.getElem?_eq_getElem (show m<ys.length by omega),val_append]
   simp [val,Nat.min_eq_left (show m<=ys.length by omega)]
  rw [List.length_take,Nat.min_eq_left (by omega)] at hv
  rw [e] at hv2
  have hnn:0<=256 ^ m*ys[m]:=Int.mul_nonneg (Int.le_of_lt (by exact_mod_cast Nat.pow_pos (by decide))) hx.1
  rw [e,JV,ih (by omega),List.getElem?_eq_getElem (show m<ys.length by omega),Option.getD_some,vO,Int.mul_comm ys[m],wu64 hnn (by omega)]
  refine ZeZ .u64 64 (by decide) wraps_u64 (8*m) (by omega) _ _ hnn ?_ (by show _<(18446744073709551616:Int);omega) hv.1 ?_
  ·rw [vO];exact Int.mul_emod_right _ _
  ·rw [vO];exact hv.2
theorem Zyw (xs:List Int) (hb:Bytes xs) (g:Nat):JD xs g=vC xs g:=by
 unfold JD vC
 rw [ZBu _ ((hb.drop _).take _) (by rw [List.length_take];omega) _ (Nat.le_refl _),List.take_of_length_le (Nat.le_refl _)]
noncomputable def Sl (k:Int) (xs:List Int) (m g:Nat) (s:Int):Int:=(List.range' g m).foldl (fun s g=>MV k (bits .xor .u64 s (vC xs g))) s
noncomputable def Sj (k:Int) (xs:List Int):Int:=Sl k xs (gN xs) 0 (MV k xs.length)
theorem ZC2 (k:Int) (xs:List Int):∀m g s,Et s->Et (Sl k xs m g s):=by
 intro m
 induction m with
 | zero=>intro g s h;exact h
 | succ m ih=>
  intro g s h
  rw [Sl,List.range'_succ]
  exact ih (g+1) _ (rH _ _)
theorem Zes (k:Int) (xs:List Int):Et (Sj k xs):=ZC2 _ _ _ _ _ (rH _ _)
theorem v_Tag (k:Int) (xs:List Int) (hb:Bytes xs) (hl:xs.length<=100000):pO k xs=some (Sj k xs):=by
 have key:∀(l:List Nat) (s:Int),l.foldlM (fun s g=>KD k (bits .xor .u64 s (JD xs g))) s=some (l.foldl (fun s g=>MV k (bits .xor .u64 s (vC xs g))) s):=by
  intro l
  induction l with
  | nil=>intro s;rfl
  | cons g l ih=>
   intro s
   rw [List.foldlM_cons,VV,Zyw xs hb]
   exact ih _
 unfold pO Vf Sj Sl
 rw [if_pos (by omega),VV,Option.bind_some,key,List.range_eq_range']
theorem Zwv (k:Int) (hk:Et k) (xs:List Int) (hb:Bytes xs) (hl:xs.length<=100000):∀(m g:Nat) (s:Int),m+g=gN xs->AV Uc (.b1 k xs s ((8*g:Nat):Int))=some (Sl k xs m g s):=by
 intro m
 induction m with
 | zero=>
  intro g s hg
  unfold gN at hg
  refine(AZ _ _).trans ?_
  simp(disch:=omega) only [Uc,DN,SL,SM]
  rfl
 | succ m ih=>
  intro g s hg
  have hg' :=hg
  unfold gN at hg
  have hlt:8*g<xs.length:=by omega
  refine(AZ _ _).trans ?_
  have e1:(if (↑xs.length:Int)<(AP (((8*g:Nat):Int)+8)) then (↑xs.length:Int) else (AP (((8*g:Nat):Int)+8)))=((min (8*g+8) xs.length:Nat):Int):=by
   rw [HY (by omega) (by omega)];split<;>omega
  have e2:(xs.drop (8*g)).take (min (8*g+8) xs.length - 8*g)=(xs.drop (8*g)).take 8:=by
   by_cases h:8*g+8<=xs.length
   ·rw [Nat.min_eq_left h,show 8*g+8 - 8*g=8 by omega]
   ·rw [List.take_of_length_le (by rw [List.length_drop];omega),List.take_of_length_le (by rw [List.length_drop];omega)]
  simp only [Uc,DN,e1]
  rw [decide_eq_true (show ((8*g:Nat):Int)<(xs.length:Int) by omega),decide_eq_true (show (0:Int)<=((min (8*g+8) xs.length:Nat):Int)/\((min (8*g+8) xs.length:Nat):Int)<=(xs.length:Int) by omega)]
  simp only [Int.toNat_natCast]
  rw [decide_eq_true (show (0:Int)<=((8*g:Nat):Int)/\((8*g:Nat):Int)<=((min (8*g+8) xs.length:Nat):Int) by omega),e2,ZDw _ ((hb.drop _).take _) (by rw [List.length_take];omega)]
  simp only [cond_true,Option.bind_some]
  rw [qM k _ hk (b64 _ _ _),Option.bind_some,HY (by omega) (by omega),show ((8*g:Nat):Int)+8=((8*(g+1):Nat):Int) by omega,ih (g+1) _ (by omega)]
  rw [Sl,Sl,List.range'_succ]
  rfl
theorem Zzo (k:Int) (hk:Et k) (xs:List Int) (hb:Bytes xs) (hl:xs.length<=100000):bH k xs=some (Sj k xs):=(AZ _ _).trans (by
 simp only [Uc,DN]
 rw [wu64 (by omega) (by omega),qM k _ hk ⟨by omega,by omega⟩,Option.bind_some]
 exact Zwv k hk xs hb hl (gN xs) 0 _ (by omega))
def Kr (n lo hi:Int):Int:=bif decide (n<lo) then 5 else bif decide (n>hi) then 5 else 0
theorem QS (n lo hi:Int):Py n lo hi=some (Kr n lo hi):=(AZ _ _).trans (by
 simp only [Z6L,DN]
 unfold Kr
 cases decide (n<lo)<;>cases decide (n>hi)<;>rfl)
theorem ZcJ (u:DL):kG u=some ⟨[IntKind.wrap .u64 u.EK,IntKind.wrap .u64 u.EJ,IntKind.wrap .u64 u.Df,IntKind.wrap .u64 u.Dh,IntKind.wrap .u64 u.EO]⟩:=(AZ _ _).trans rfl
theorem ZbT (a b c d e:Int) (r:List Int):kE (a::b::c::d::e::r)=some ⟨AP a,AP b,AP c,AP d,AP e⟩:=(AZ _ _).trans (by
 have h:∀j:Int,0<=j->j<5->decide (0<=j/\j<(((a::b::c::d::e::r).length:Nat):Int))=true:=fun j h1 h2=>decide_eq_true ⟨h1,by simp only [List.length_cons];omega⟩
 simp only [Z6s,DN,h 0 (by decide) (by decide),h 1 (by decide) (by decide),h 2 (by decide) (by decide),h 3 (by decide) (by decide),h 4 (by decide) (by decide),cond_true]
 rfl)
theorem Iq (c:AL):Nb c=some []:=(AZ _ _).trans (rfl)
theorem J9 (c:AL):TL c=some [c.CQ]:=(AZ _ _).trans (rfl)
theorem Ja (c:AL):TV c=some [IntKind.wrap .u64 c.Length]:=(AZ _ _).trans (rfl)
theorem KE (c:AL):jY c=some [IntKind.wrap .u64 c.BH.EK,IntKind.wrap .u64 c.BH.EJ,IntKind.wrap .u64 c.BH.Df,IntKind.wrap .u64 c.BH.Dh,IntKind.wrap .u64 c.BH.EO,IntKind.wrap .u64 c.DD]:=(AZ _ _).trans (by
 simp only [Z6o,DN,ZcJ,Option.bind_some]
 rfl)
theorem KH (c:AL):jV c=some [c.Map,IntKind.wrap .u64 c.DD]:=(AZ _ _).trans (rfl)
theorem KF (c:AL):jX c=some [IntKind.wrap .u64 c.BH.EK,IntKind.wrap .u64 c.BH.EJ,IntKind.wrap .u64 c.BH.Df,IntKind.wrap .u64 c.BH.Dh,IntKind.wrap .u64 c.BH.EO]:=(AZ _ _).trans (by
 simp only [Z6g,DN,ZcJ,Option.bind_some]
 rfl)
theorem Jv (c:AL):jS c=some [IntKind.wrap .u64 c.Bc]:=(AZ _ _).trans (rfl)
theorem Jy (c:AL):jG c=some [c.Bo,c.Mark]:=(AZ _ _).trans (rfl)
theorem Jz (c:AL):jM c=some [c.Bo]:=(AZ _ _).trans (rfl)
theorem KA (c:AL):jQ c=some [IntKind.wrap .u64 c.DI]:=(AZ _ _).trans (rfl)
theorem Ju (c:AL):jH c=some [IntKind.wrap .u64 c.Version]:=(AZ _ _).trans (rfl)
theorem KC (c:AL):jO c=some [IntKind.wrap .u64 c.Bc,IntKind.wrap .u64 c.DI]:=(AZ _ _).trans (rfl)
theorem LY (l:List Int) (u:AL):TY l u=some ⟨u⟩:=(AZ _ _).trans rfl
theorem Kv (a:Int) (u:AL):iW [a] u=some ⟨{ u with CQ:=a }⟩:=(AZ _ _).trans (rfl)
theorem LV (a:Int) (u:AL):jI [a] u=some ⟨{ u with Length:=AP a }⟩:=(AZ _ _).trans (rfl)
theorem L6 (a b c d e f:Int) (u:AL):zM [a,b,c,d,e,f] u=some ⟨{ u with BH:=⟨AP a,AP b,AP c,AP d,AP e⟩,DD:=IntKind.wrap .u16 f }⟩:=(AZ _ _).trans (by
 simp only [Z6h,DN,ZbT,Option.bind_some]
 all_goals rfl)
theorem La (a b:Int) (u:AL):zL [a,b] u=some ⟨{ u with Map:=a,DD:=IntKind.wrap .u16 b }⟩:=(AZ _ _).trans (rfl)
theorem L8 (a b c d e:Int) (u:AL):yO [a,b,c,d,e] u=some ⟨{ u with BH:=⟨AP a,AP b,AP c,AP d,AP e⟩ }⟩:=(AZ _ _).trans (by
 simp only [Z6w,DN,ZbT,Option.bind_some]
 all_goals rfl)
theorem LQ (a:Int) (u:AL):xB [a] u=some ⟨{ u with Bc:=AP a }⟩:=(AZ _ _).trans (rfl)
theorem Ky (a b:Int) (u:AL):xM [a,b] u=some ⟨{ u with Bo:=a,Mark:=b }⟩:=(AZ _ _).trans (rfl)
theorem LG (a:Int) (u:AL):xJ [a] u=some ⟨{ u with Bo:=a }⟩:=(AZ _ _).trans (rfl)
theorem LP (a:Int) (u:AL):wS [a] u=some ⟨{ u with DI:=AP a }⟩:=(AZ _ _).trans (rfl)
theorem LM (a:Int) (u:AL):yD [a] u=some ⟨{ u with Version:=AP a }⟩:=(AZ _ _).trans (rfl)
theorem Kz (a b:Int) (u:AL):wV [a,b] u=some ⟨{ u with Bc:=AP a,DI:=AP b }⟩:=(AZ _ _).trans (rfl)
theorem Lr (c:AL):Nc c=some (0):=(AZ _ _).trans (by
 simp only [Z7d,DN,QS,Pq,Option.bind_some])
theorem LK (c:AL):jP c=some (Kr c.Length 27 251):=(AZ _ _).trans (by
 simp only [Z6f,DN,QS,Pq,Option.bind_some])
theorem LZ (c:AL):zD c=some (IW c.BH):=(AZ _ _).trans (by
 simp only [Z6j,DN,QS,Pq,Option.bind_some])
theorem ZwE (c:AL) (h:0<=c.Map/\c.Map<18446744073709551616):yR c=some (Ia c.Map):=(AZ _ _).trans (by
 have:=ZkL c.Map.toNat (by omega)
 rw [Int.toNat_of_nonneg h.1] at this
 simp only [Z6t,DN,this,Option.bind_some])
theorem L9 (c:AL):yS c=some (IW c.BH):=(AZ _ _).trans (by
 simp only [Z6q,DN,QS,Pq,Option.bind_some])
theorem LJ (c:AL):xW c=some (Kr c.Bc 0 255):=(AZ _ _).trans (by
 simp only [Z5Y,DN,QS,Pq,Option.bind_some])
theorem LH (c:AL):xN c=some (Kr c.DI 0 255):=(AZ _ _).trans (by
 simp only [Z5T,DN,QS,Pq,Option.bind_some])
theorem LD (c:AL):yC c=some (Kr c.Version 0 255):=(AZ _ _).trans (by
 simp only [Z67,DN,QS,Pq,Option.bind_some])
theorem LC (c:AL):xX c=some ((if Kr c.DI 0 255>Kr c.Bc 0 255 then Kr c.DI 0 255 else Kr c.Bc 0 255)):=(AZ _ _).trans (by
 simp only [Z66,DN,QS,Pq,Option.bind_some])
theorem ww {x:Int} (h:0<=x) (h' : x<9223372036854775808):AP (IntKind.wrap .u64 x)=x:=by rw [wu64 h (by omega),HY (by omega) (by omega)]
theorem wi16 {x:Int} (h:R16 x):IntKind.wrap .u16 (IntKind.wrap .u64 x)=x:=by rw [wu64 h.1 (by have:=h.2;omega),wu16 h.1 h.2]
theorem Zff {n lo hi:Int} (h:lo<=n) (h' : n<=hi):Kr n lo hi=0:=by unfold Kr;rw [decide_eq_false (by omega),decide_eq_false (by omega)];rfl
theorem iG {n:Int} (h:R8 n):Kr n 0 255=0:=Zff h.1 (by have:=h.2;omega)
theorem Ll (c:AL):Gj c c=true:=by simp [Gj]
theorem uP {u:DL} (h:IW u=0):1<=u.EK/\u.EK<=8/\0<=u.EJ/\u.EJ<=3200/\6<=u.Df/\u.Df<=3200/\0<=u.Dh/\u.Dh<=499/\10<=u.EO/\u.EO<=3200:=by
 unfold IW at h
 by_cases hb:(!(inB u.EK 1 8&&inB u.EJ 0 3200&&inB u.Df 6 3200&&inB u.Dh 0 499&&inB u.EO 10 3200))=true
 ·rw [if_pos hb] at h;cases h
 ·simp [inB] at hb
  omega
theorem ZEp {m:Int} (h:Ia m=0):m<137438953472:=by
 unfold Ia at h
 by_cases hb:m>=137438953472
 ·rw [if_pos hb] at h;cases h
 ·omega
theorem I7 {c:AL} (h:CV c):Zt c=some 0:=by
 have hf:Gw=some ():=rfl
 refine(AZ _ _).trans ?_
 cases h
 case upd u i h1 h2=>
  have hb:=uP h1
  simp only [Jt,DN,hf,Option.bind_some,J9,Kv,Lr,KE,Jv,LQ,LJ,Jy,Ky,Jz,LG,KA,LP,LH,L6,Ju,LM,LD,KC,Kz,LC,LZ,KH,La,KF,L8,L9,Ja,LV,LK,Iq,LY,ww (show 0<=u.EK by omega) (by omega),ww (show 0<=u.EJ by omega) (by omega),ww (show 0<=u.Df by omega) (by omega),ww (show 0<=u.Dh by omega) (by omega),ww (show 0<=u.EO by omega) (by omega),wi16 h2,Ll,Int.reduceBEq,Int.reduceEq,beq_self_eq_true,Bool.and_self,Bool.not_true,cond_true,cond_false, *]
 case map m i h1 h2 h3=>
  simp only [Jt,DN,hf,Option.bind_some,J9,Kv,Lr,KE,Jv,LQ,LJ,Jy,Ky,Jz,LG,KA,LP,LH,L6,Ju,LM,LD,KC,Kz,LC,LZ,KH,La,KF,L8,L9,Ja,LV,LK,Iq,LY,wi16 h3,ZwE (⟨1,BP,m,i,0,0,0,0,0,0,0⟩:AL) h1,Ll,Int.reduceBEq,Int.reduceEq,beq_self_eq_true,Bool.and_self,Bool.not_true,cond_true,cond_false, *]
 case term r h1=>simp only [Jt,DN,hf,Option.bind_some,J9,Kv,Lr,KE,Jv,LQ,LJ,Jy,Ky,Jz,LG,KA,LP,LH,L6,Ju,LM,LD,KC,Kz,LC,LZ,KH,La,KF,L8,L9,Ja,LV,LK,Iq,LY,ww h1.1 (Int.lt_trans h1.2 (by decide)),iG h1,Ll,Int.reduceBEq,Int.reduceEq,beq_self_eq_true,Bool.and_self,Bool.not_true,cond_true,cond_false, *]
 case enc s m h1 h2=>simp only [Jt,DN,hf,Option.bind_some,J9,Kv,Lr,KE,Jv,LQ,LJ,Jy,Ky,Jz,LG,KA,LP,LH,L6,Ju,LM,LD,KC,Kz,LC,LZ,KH,La,KF,L8,L9,Ja,LV,LK,Iq,LY,Ll,Int.reduceBEq,Int.reduceEq,beq_self_eq_true,Bool.and_self,Bool.not_true,cond_true,cond_false, *]
 case ans s h1=>simp only [Jt,DN,hf,Option.bind_some,J9,Kv,Lr,KE,Jv,LQ,LJ,Jy,Ky,Jz,LG,KA,LP,LH,L6,Ju,LM,LD,KC,Kz,LC,LZ,KH,La,KF,L8,L9,Ja,LV,LK,Iq,LY,Ll,Int.reduceBEq,Int.reduceEq,beq_self_eq_true,Bool.and_self,Bool.not_true,cond_true,cond_false, *]
 case plain k h1=>rcases h1 with rfl|rfl|rfl|rfl<;>simp only [Jt,DN,hf,Option.bind_some,J9,Kv,Lr,KE,Jv,LQ,LJ,Jy,Ky,Jz,LG,KA,LP,LH,L6,Ju,LM,LD,KC,Kz,LC,LZ,KH,La,KF,L8,L9,Ja,LV,LK,Iq,LY,Ll,Int.reduceBEq,Int.reduceEq,beq_self_eq_true,Bool.and_self,Bool.not_true,cond_true,cond_false, *]
 case Vh r h1=>simp only [Jt,DN,hf,Option.bind_some,J9,Kv,Lr,KE,Jv,LQ,LJ,Jy,Ky,Jz,LG,KA,LP,LH,L6,Ju,LM,LD,KC,Kz,LC,LZ,KH,La,KF,L8,L9,Ja,LV,LK,Iq,LY,ww h1.1 (Int.lt_trans h1.2 (by decide)),iG h1,Ll,Int.reduceBEq,Int.reduceEq,beq_self_eq_true,Bool.and_self,Bool.not_true,cond_true,cond_false, *]
 case gX k f h1 h2=>rcases h1 with rfl|rfl<;>simp only [Jt,DN,hf,Option.bind_some,J9,Kv,Lr,KE,Jv,LQ,LJ,Jy,Ky,Jz,LG,KA,LP,LH,L6,Ju,LM,LD,KC,Kz,LC,LZ,KH,La,KF,L8,L9,Ja,LV,LK,Iq,LY,Ll,Int.reduceBEq,Int.reduceEq,beq_self_eq_true,Bool.and_self,Bool.not_true,cond_true,cond_false, *]
 case iL v h1=>simp only [Jt,DN,hf,Option.bind_some,J9,Kv,Lr,KE,Jv,LQ,LJ,Jy,Ky,Jz,LG,KA,LP,LH,L6,Ju,LM,LD,KC,Kz,LC,LZ,KH,La,KF,L8,L9,Ja,LV,LK,Iq,LY,ww h1.1 (Int.lt_trans h1.2 (by decide)),iG h1,Ll,Int.reduceBEq,Int.reduceEq,beq_self_eq_true,Bool.and_self,Bool.not_true,cond_true,cond_false, *]
 case Vk r k h1 h2=>simp only [Jt,DN,hf,Option.bind_some,J9,Kv,Lr,KE,Jv,LQ,LJ,Jy,Ky,Jz,LG,KA,LP,LH,L6,Ju,LM,LD,KC,Kz,LC,LZ,KH,La,KF,L8,L9,Ja,LV,LK,Iq,LY,ww h1.1 (Int.lt_trans h1.2 (by decide)),iG h1,ww h2.1 (Int.lt_trans h2.2 (by decide)),iG h2,Int.lt_irrefl,ite_self,Ll,Int.reduceBEq,Int.reduceEq,beq_self_eq_true,Bool.and_self,Bool.not_true,cond_true,cond_false, *]
 case par u h1=>
  have hb:=uP h1
  simp only [Jt,DN,hf,Option.bind_some,J9,Kv,Lr,KE,Jv,LQ,LJ,Jy,Ky,Jz,LG,KA,LP,LH,L6,Ju,LM,LD,KC,Kz,LC,LZ,KH,La,KF,L8,L9,Ja,LV,LK,Iq,LY,ww (show 0<=u.EK by omega) (by omega),ww (show 0<=u.EJ by omega) (by omega),ww (show 0<=u.Df by omega) (by omega),ww (show 0<=u.Dh by omega) (by omega),ww (show 0<=u.EO by omega) (by omega),Ll,Int.reduceBEq,Int.reduceEq,beq_self_eq_true,Bool.and_self,Bool.not_true,cond_true,cond_false, *]
 case len k n h1 h2 h3=>rcases h1 with rfl|rfl<;>simp only [Jt,DN,hf,Option.bind_some,J9,Kv,Lr,KE,Jv,LQ,LJ,Jy,Ky,Jz,LG,KA,LP,LH,L6,Ju,LM,LD,KC,Kz,LC,LZ,KH,La,KF,L8,L9,Ja,LV,LK,Iq,LY,ww (show 0<=n by omega) (by omega),Zff h2 h3,Ll,Int.reduceBEq,Int.reduceEq,beq_self_eq_true,Bool.and_self,Bool.not_true,cond_true,cond_false, *]
theorem Z3k (k:Int):(EN k=some ⟨true,true,false,true,false,false,false,false,false,false,false⟩/\k=0)\/(EN k=some ⟨true,false,true,true,false,false,false,false,false,false,false⟩/\k=1) \/
  (EN k=some ⟨true,false,false,false,true,false,false,false,false,false,false⟩/\k=2)\/(EN k=some ⟨true,false,false,false,false,false,true,true,false,false,false⟩/\k=3) \/
  (EN k=some ⟨true,false,false,false,false,false,true,false,false,false,false⟩/\k=4)\/(EN k=some ⟨true,false,false,false,false,false,false,false,false,false,false⟩/\(k=5\/k=6\/k=18\/k=19)) \/
  (EN k=some ⟨true,false,false,false,false,true,false,false,false,false,false⟩/\k=7)\/(EN k=some ⟨true,false,false,false,false,false,false,false,true,false,false⟩/\(k=8\/k=9)) \/
  (EN k=some ⟨true,false,false,false,false,false,false,false,false,true,false⟩/\k=12)\/(EN k=some ⟨true,false,false,false,true,true,false,false,false,false,false⟩/\k=13) \/
  (EN k=some ⟨true,true,false,false,false,false,false,false,false,false,false⟩/\k=15)\/(EN k=some ⟨true,false,false,false,false,false,false,false,false,false,true⟩/\(k=20\/k=21)) \/
  (EN k=some MZ/\(k<0\/9<k/\k<12\/k=14\/15<k/\k<18\/21<k)):=by
 have e6:∀z,AV Nj (.b6 z)=some MZ:=fun z=>(AZ _ _).trans rfl
 have e5:∀z,AV Nj (.b5 z)=some ⟨true,false,false,false,false,false,false,false,false,false,true⟩:=fun z=>(AZ _ _).trans rfl
 have e3:∀z,AV Nj (.b3 z)=some ⟨true,false,false,false,false,false,false,false,true,false,false⟩:=fun z=>(AZ _ _).trans rfl
 have e1:∀z,AV Nj (.b1 z)=some ⟨true,false,false,false,false,false,false,false,false,false,false⟩:=fun z=>(AZ _ _).trans rfl
 have e4:=fun k z=>AZ Nj (.b4 k z)
 have e2:=fun k z=>AZ Nj (.b2 k z)
 have e0:EN k=_:=AZ Nj (.b0 k)
 simp only [Nj,DN,e6,e5,e3,e1] at e4 e2 e0
 simp only [e4,e2] at e0
 rw [e0]
 by_cases h0:k=0
 ·subst h0;exact .inl ⟨rfl,rfl⟩
 by_cases h1:k=1
 ·subst h1;exact .inr (.inl ⟨rfl,rfl⟩)
 by_cases h2:k=2
 ·subst h2;exact .inr (.inr (.inl ⟨rfl,rfl⟩))
 by_cases h3:k=3
 ·subst h3;exact .inr (.inr (.inr (.inl ⟨rfl,rfl⟩)))
 by_cases h4:k=4
 ·subst h4;exact .inr (.inr (.inr (.inr (.inl ⟨rfl,rfl⟩))))
 by_cases h5:k=5
 ·subst h5;exact .inr (.inr (.inr (.inr (.inr (.inl ⟨rfl,.inl rfl⟩)))))
 by_cases h6:k=6
 ·subst h6;exact .inr (.inr (.inr (.inr (.inr (.inl ⟨rfl,.inr (.inl rfl)⟩)))))
 by_cases h18:k=18
 ·subst h18;exact .inr (.inr (.inr (.inr (.inr (.inl ⟨rfl,.inr (.inr (.inl rfl))⟩)))))
 by_cases h19:k=19
 ·subst h19;exact .inr (.inr (.inr (.inr (.inr (.inl ⟨rfl,.inr (.inr (.inr rfl))⟩)))))
 by_cases h7:k=7
 ·subst h7;exact .inr (.inr (.inr (.inr (.inr (.inr (.inl ⟨rfl,rfl⟩))))))
 by_cases h8:k=8
 ·subst h8;exact .inr (.inr (.inr (.inr (.inr (.inr (.inr (.inl ⟨rfl,.inl rfl⟩)))))))
 by_cases h9:k=9
 ·subst h9;exact .inr (.inr (.inr (.inr (.inr (.inr (.inr (.inl ⟨rfl,.inr rfl⟩)))))))
 by_cases h12:k=12
 ·subst h12;exact .inr (.inr (.inr (.inr (.inr (.inr (.inr (.inr (.inl ⟨rfl,rfl⟩))))))))
 by_cases h13:k=13
 ·subst h13;exact .inr (.inr (.inr (.inr (.inr (.inr (.inr (.inr (.inr (.inl ⟨rfl,rfl⟩)))))))))
 by_cases h15:k=15
 ·subst h15;exact .inr (.inr (.inr (.inr (.inr (.inr (.inr (.inr (.inr (.inr (.inl ⟨rfl,rfl⟩))))))))))
 by_cases h20:k=20
 ·subst h20;exact .inr (.inr (.inr (.inr (.inr (.inr (.inr (.inr (.inr (.inr (.inr (.inl ⟨rfl,.inl rfl⟩)))))))))))
 by_cases h21:k=21
 ·subst h21;exact .inr (.inr (.inr (.inr (.inr (.inr (.inr (.inr (.inr (.inr (.inr (.inl ⟨rfl,.inr rfl⟩)))))))))))
 refine .inr (.inr (.inr (.inr (.inr (.inr (.inr (.inr (.inr (.inr (.inr (.inr ⟨?_,by omega⟩)))))))))))
 rw [beq_false_of_ne h0,beq_false_of_ne h1,beq_false_of_ne h2,beq_false_of_ne h3,beq_false_of_ne h4,beq_false_of_ne h5,beq_false_of_ne h6,beq_false_of_ne h18,beq_false_of_ne h19,beq_false_of_ne h7,beq_false_of_ne h8,beq_false_of_ne h9,beq_false_of_ne h12,beq_false_of_ne h13,beq_false_of_ne h15,beq_false_of_ne h20,beq_false_of_ne h21]
 rfl
def S9 (c:AL) (u:Be):AL:=⟨0,bif u.BH then BP else c.BH,bif u.Map then 0 else c.Map,bif u.DD then 0 else c.DD,bif u.Bc then 0 else c.Bc,bif u.DI then 0 else c.DI,bif u.Bo then 0 else c.Bo,bif u.Mark then 0 else c.Mark,bif u.CQ then 0 else c.CQ,bif u.Version then 0 else c.Version,bif u.Length then 0 else c.Length⟩
theorem ZDY (c:AL) (u:Be) (hf:EN c.Kind=some u):oW c=some (S9 c u):=by
 have e1:=fun x y=>AZ Gf (.b1 x y u)
 have e2:=fun x y=>AZ Gf (.b2 x y u)
 have e3:=fun x y=>AZ Gf (.b3 x y u)
 have e4:=fun x y=>AZ Gf (.b4 x y u)
 have e5:=fun x y=>AZ Gf (.b5 x y u)
 have e6:=fun x y=>AZ Gf (.b6 x y u)
 have e7:=fun x y=>AZ Gf (.b7 x y u)
 have e8:=fun x y=>AZ Gf (.b8 x y u)
 have e9:=fun x y=>AZ Gf (.b9 x y u)
 refine(AZ _ _).trans ?_
 simp only [Gf,DN] at e1 e2 e3 e4 e5 e6 e7 e8 e9 ⊢
 simp only [hf,Option.bind_some]
 unfold S9
 obtain⟨u0,u1,u2,u3,u4,u5,u6,u7,u8,u9,u10⟩:=u
 have b1:(bif u1 then AV Gf (.b1 { c with Kind:=0,BH:=BP } GZ ⟨u0,u1,u2,u3,u4,u5,u6,u7,u8,u9,u10⟩) else AV Gf (.b1 { c with Kind:=0 } GZ ⟨u0,u1,u2,u3,u4,u5,u6,u7,u8,u9,u10⟩))=AV Gf (.b1 { c with Kind:=0,BH:=bif u1 then BP else c.BH } GZ ⟨u0,u1,u2,u3,u4,u5,u6,u7,u8,u9,u10⟩):=by cases u1<;>rfl
 refine b1.trans ?_
 have cb:∀(b:Bool) (x y:AL) (f:AL->Option AL),(bif b then f x else f y)=f (bif b then x else y):=fun b _ _ _=>by cases b<;>rfl
 rw [e1,cb u2 _ _ (fun x=>AV Gf (.b2 x _ _)),e2,cb u3 _ _ (fun x=>AV Gf (.b3 x _ _)),e3,cb u4 _ _ (fun x=>AV Gf (.b4 x _ _)),e4,cb u5 _ _ (fun x=>AV Gf (.b5 x _ _)),e5,cb u6 _ _ (fun x=>AV Gf (.b6 x _ _)),e6,cb u7 _ _ (fun x=>AV Gf (.b7 x _ _)),e7,cb u8 _ _ (fun x=>AV Gf (.b8 x _ _)),e8,cb u9 _ _ (fun x=>AV Gf (.b9 x _ _)),e9,cb u10 _ _ some]
 congr 1
 cases u2<;>cases u3<;>cases u4<;>cases u5<;>cases u6<;>cases u7<;>cases u8<;>cases u9<;>cases u10<;>rfl
def JJ (n:Int):Bool:=bif decide (n>=0) then decide (n<=255) else false
theorem ZA6 (n:Int):UK n=some (JJ n):=(AZ _ _).trans (by
 simp only [Z0A,DN]
 unfold JJ
 cases decide (n>=0)<;>rfl)
theorem Z3s (n:Int):JJ n=true↔R8 n:=by
 unfold JJ R8
 by_cases h:n>=0
 ·rw [decide_eq_true h,cond_true,decide_eq_true_eq];omega
 ·rw [decide_eq_false h,cond_false];exact⟨(fun h=>nomatch h),fun h' =>by omega⟩
def zC (x:AL):Bool:=(x.Kind==0)&&((x.BH.EK==0)&&((x.BH.EJ==0)&&((x.BH.Df==0)&&((x.BH.Dh==0)&&((x.BH.EO==0)&&((x.Map==0)&&((x.DD==0)&&((x.Bc==0)&&((x.DI==0)&&((x.Bo==0)&&((x.Mark==0)&&((x.CQ==0)&&((x.Version==0)&&((x.Length==0)&&true))))))))))))))
theorem ZEv (x:AL):zC x=true↔x=GZ:=by
 obtain⟨k,⟨a,b,c,d,e⟩,m,i,r,rj,s,mk,f,v,l⟩:=x
 simp [zC,GZ,BP,and_assoc]
def vZ (c:AL) (u:Be):Int:=bif !u.Hl then 12 else bif !zC (S9 c u) then 1 else bif u.BH&&(IW c.BH != 0) then IW c.BH else bif u.Map&&(Ia c.Map != 0) then Ia c.Map else bif !JJ c.Bc then 5 else bif !JJ c.DI then 5 else bif !JJ c.Version then 5 else bif u.Length&&(decide (c.Length<27)||decide (c.Length>251)) then 5 else 0
theorem ZaG (c:AL) (u:Be) (hf:EN c.Kind=some u) (hm:0<=c.Map/\c.Map<18446744073709551616):Og c=some (vZ c u):=by
 have e2:AV UY (.b2 c u)=some (bif !JJ c.Bc then 5 else bif !JJ c.DI then 5 else bif !JJ c.Version then 5 else bif u.Length&&(decide (c.Length<27)||decide (c.Length>251)) then 5 else 0):=(AZ _ _).trans (by
  simp only [UY,DN,ZA6,Option.bind_some]
  cases JJ c.Bc<;>cases JJ c.DI<;>cases JJ c.Version<;>cases u.Length<;>cases decide (c.Length<27)<;>cases decide (c.Length>251)<;>rfl)
 have e1:AV UY (.b1 c u)=some (bif u.Map&&(Ia c.Map != 0) then Ia c.Map else bif !JJ c.Bc then 5 else bif !JJ c.DI then 5 else bif !JJ c.Version then 5 else bif u.Length&&(decide (c.Length<27)||decide (c.Length>251)) then 5 else 0):=(AZ _ _).trans (by
  have h:=ZsC c.Map.toNat (by omega)
  rw [Int.toNat_of_nonneg hm.1] at h
  simp only [UY,DN,h,Option.bind_some,e2]
  cases u.Map<;>cases (Ia c.Map != 0)<;>rfl)
 refine(AZ _ _).trans ?_
 simp only [UY,DN,hf,Option.bind_some,ZDY c u hf,Zjz,e1]
 unfold vZ
 rw [show zC (S9 c u)=_ from rfl]
 cases u.Hl
 ·rfl
 ·simp only [Bool.not_true,cond_false]
  unfold zC
  generalize ((S9 c u).Kind==0&&_)=z
  cases z
  ·rfl
  ·cases u.BH<;>cases (IW c.BH != 0)<;>rfl
theorem Ql {x:Bool} {a b:Int} (h:x=true->a≠0):(bif x then a else b)=0↔x=false/\b=0:=by cases x<;>simp_all
theorem Ze6 {c:AL} {u:Be}:vZ c u=0↔u.Hl=true/\S9 c u=GZ/\(u.BH=true->IW c.BH=0)/\(u.Map=true->Ia c.Map=0)/\R8 c.Bc/\R8 c.DI/\R8 c.Version/\(u.Length=true->27<=c.Length/\c.Length<=251):=by
 rw [<- ZEv,<- Z3s,<- Z3s,<- Z3s]
 unfold vZ
 have e1:(u.BH&&(IW c.BH != 0))=false↔(u.BH=true->IW c.BH=0):=by cases u.BH<;>simp
 have e2:(u.Map&&(Ia c.Map != 0))=false↔(u.Map=true->Ia c.Map=0):=by cases u.Map<;>simp
 have e3:(u.Length&&(decide (c.Length<27)||decide (c.Length>251)))=false↔(u.Length=true->27<=c.Length/\c.Length<=251):=by cases u.Length<;>simp
 rw [Ql (fun _=>by decide),Ql (fun _=>by decide),Ql (fun h=>by simp at h;exact h.2),Ql (fun h=>by simp at h;exact h.2),Ql (fun _=>by decide),Ql (fun _=>by decide),Ql (fun _=>by decide),Ql (fun _=>by decide),e1,e2,e3]
 simp only [Bool.not_eq_false',and_true]
theorem ZrC {c:AL} (h:CV c):Og c=some 0:=by
 have hm:0<=c.Map/\c.Map<18446744073709551616:=by cases h<;>first|assumption|exact(⟨by decide,by decide⟩:CB 0)
 have z8:R8 0:=⟨by decide,by decide⟩
 rcases Z3k c.Kind with ⟨hf,hk⟩|⟨hf,hk⟩|⟨hf,hk⟩|⟨hf,hk⟩|⟨hf,hk⟩|⟨hf,hk⟩|⟨hf,hk⟩|⟨hf,hk⟩|⟨hf,hk⟩|⟨hf,hk⟩|⟨hf,hk⟩|⟨hf,hk⟩|⟨hf,hk⟩
 all_goals
  rw [ZaG c _ hf hm]
  refine congrArg some (Ze6.2 ?_)
  cases h<;>first|(exfalso;dsimp only at hk;omega)|(refine⟨rfl,rfl,?_,?_,?_,?_,?_,?_⟩<;>first|assumption|(intro;assumption)|(intro;exact⟨by assumption,by assumption⟩)|(intro h;exact nomatch h))
theorem Zpp (c:AL) (hm:CB c.Map) (hi:R16 c.DD) (hs:CB c.Bo) (hk' : CB c.Mark) (hfe:CB c.CQ):∃r,Og c=some r/\(r=0->CV c):=by
 rcases Z3k c.Kind with ⟨hf,hk⟩|⟨hf,hk⟩|⟨hf,hk⟩|⟨hf,hk⟩|⟨hf,hk⟩|⟨hf,hk⟩|⟨hf,hk⟩|⟨hf,hk⟩|⟨hf,hk⟩|⟨hf,hk⟩|⟨hf,hk⟩|⟨hf,hk⟩|⟨hf,hk⟩
 all_goals
  refine⟨_,ZaG c _ hf hm,fun hz=>?_⟩
  obtain⟨h1,h2,h3,h4,h5,h6,h7,h8⟩:=Ze6.1 hz
  obtain⟨k,u,m,i,r,rj,s,mk,f,v,l⟩:=c
  first
   | exact absurd h1 (by decide)
   | (simp only [S9,GZ,cond_true,cond_false,AL.mk.injEq,true_and,and_true] at h2
      dsimp only at hk h3 h4 h5 h6 h7 h8 hm hi hs hk' hfe
      simp only [h2]
      first
       | (subst hk;first|exact CV.upd _ _ (h3 rfl) hi|exact CV.map _ _ hm (h4 rfl) hi|exact CV.term _ h5|exact CV.enc _ _ hs hk' | exact CV.ans _ hs|exact CV.Vh _ h6|exact CV.iL _ h7|exact CV.Vk _ _ h5 h6|exact CV.par _ (h3 rfl))
       | exact CV.plain _ hk
       | exact CV.gX _ _ hk hfe
       | exact CV.len _ _ hk (h8 rfl).1 (h8 rfl).2)
theorem Z0W (p0:AL) (h0:Bj p0):∃r,Og p0=some r/\(r=0->CV p0):=Zpp p0 h0.1 h0.2.1 h0.2.2.1 h0.2.2.2.1 h0.2.2.2.2.1
set_option linter.defProp false
set_option maxHeartbeats 40000000
theorem Bh:(∀(α:Type) (a b:List α),(a++b).length=a.length+b.length)/\(∀(α:Type) (a:α) (l:List α),(a::l).length=l.length+1)/\(∀α:Type,([]:List α).length=0)/\(∀(α:Type) (n:Nat) (l:List α),(l.take n).length=min n l.length)/\(∀(α:Type) (n:Nat) (l:List α),(l.drop n).length=l.length - n)/\(∀(α:Type) (l:List α) (i:Nat) (a:α),(l.set i a).length=l.length)/\(∀(α:Type) (n:Nat) (a:α),(List.replicate n a).length=n):=
 ⟨fun _ _ _=>List.length_append,fun _ _ _=>List.length_cons,fun _=>List.length_nil,fun _ _ _=>List.length_take,fun _ _ _=>List.length_drop,fun _ _ _ _=>List.length_set,fun _ _ _=>List.length_replicate⟩
theorem Dx:(∀a b:Bool,((a&&b)=true)=(a=true/\b=true))/\(∀a b:Bool,((a||b)=true)=(a=true\/b=true))/\(∀(p:Prop) [Decidable p],(decide p=true)=p)/\(∀(α:Type) [BEq α] [LawfulBEq α] (a b:α),((a==b)=true)=(a=b))/\(∀(α:Type) [BEq α] [LawfulBEq α] (a b:α),((a != b)=true)=(a≠b))/\(∀(α:Type) [BEq α] [ReflBEq α] (a:α),(a==a)=true)/\(∀p:Prop,(p/\p)=p)/\(∀p:Prop,(p/\True)=p)/\(∀p:Prop,(True/\p)=p)/\(∀(α β:Type) (f:α->β) (l:List α),(l.map f).length=l.length):=
 ⟨Bool.and_eq_true,Bool.or_eq_true,fun _ _=>decide_eq_true_eq,fun _ _ _ _ _=>propext beq_iff_eq,fun _ _ _ _ _=>propext bne_iff_ne,fun _ _ _ a=>beq_self_eq_true a,and_self,and_true,true_and,fun _ _ _ _=>List.length_map _⟩
theorem Ff:(∀(p:Prop) [Decidable p],(decide p=true)=p)/\(∀(p:Prop) [Decidable p],(decide p=false)=¬p)/\(∀b:Bool,((!b)=true)=(b=false))/\(∀b:Bool,((!b)=false)=(b=true))/\(∀b:Bool,(¬b=true)=(b=false))/\(∀b:Bool,(¬b=false)=(b=true))/\(∀(α:Type) [BEq α] [LawfulBEq α] (a b:α),((a==b)=true)=(a=b))/\(∀(α:Type) [BEq α] [LawfulBEq α] (a b:α),((a != b)=true)=(a≠b)) /\
  (∀(α:Type) [BEq α] [LawfulBEq α] (a b:α),((a==b)=false)=(a≠b))/\(∀(α:Type) [BEq α] [LawfulBEq α] (a b:α),((a != b)=false)=(a=b))/\(∀(α:Type) (a b:α),(a≠b)=¬a=b)/\(∀a b:Bool,((a&&b)=true)=(a=true/\b=true))/\(∀a b:Bool,((a||b)=true)=(a=true\/b=true))/\(∀p:Prop,(¬¬p)=p):=
 ⟨fun _ _=>decide_eq_true_eq,fun _ _=>propext decide_eq_false_iff_not,fun b=>by cases b<;>simp,fun b=>by cases b<;>simp,fun b=>by cases b<;>simp,fun b=>by cases b<;>simp,fun _ _ _ _ _=>propext beq_iff_eq,fun _ _ _ _ _=>propext bne_iff_ne,fun _ _ _ _ _=>propext beq_eq_false_iff_ne,fun _ _ _ _ _=>propext bne_eq_false_iff_eq,fun _ _ _=>rfl,Bool.and_eq_true,Bool.or_eq_true,fun _=>propext Classical.not_not⟩
theorem Ze5 {L:Type} {l:List (Aw)} {i:Int} {k:Aw->Tr U L} {Q:L->Prop} (h:0<=i/\i<(l.length:Int)) (g:∀v:Aw,v∈l->Tot (k v) Q):Tot (Tr.bind (U:=U) 68 (l[Int.toNat i]? : Option (Aw)) k) Q:=OE (U:=U) (t:=68) h g
theorem Z2W {L:Type} {l:List (AL)} {i:Int} {k:AL->Tr U L} {Q:L->Prop} (h:0<=i/\i<(l.length:Int)) (g:∀v:AL,v∈l->Tot (k v) Q):Tot (Tr.bind (U:=U) 156 (l[Int.toNat i]? : Option (AL)) k) Q:=OE (U:=U) (t:=156) h g
theorem Z3a {L:Type} {l:List (BN)} {i:Int} {k:BN->Tr U L} {Q:L->Prop} (h:0<=i/\i<(l.length:Int)) (g:∀v:BN,v∈l->Tot (k v) Q):Tot (Tr.bind (U:=U) 138 (l[Int.toNat i]? : Option (BN)) k) Q:=OE (U:=U) (t:=138) h g
theorem Z3x {L:Type} {l:List (BR)} {i:Int} {k:BR->Tr U L} {Q:L->Prop} (h:0<=i/\i<(l.length:Int)) (g:∀v:BR,v∈l->Tot (k v) Q):Tot (Tr.bind (U:=U) 99 (l[Int.toNat i]? : Option (BR)) k) Q:=OE (U:=U) (t:=99) h g
theorem ZeR {L:Type} {l:List (Int)} {i:Int} {k:Int->Tr U L} {Q:L->Prop} (h:0<=i/\i<(l.length:Int)) (g:∀v:Int,v∈l->Tot (k v) Q):Tot (Tr.bind (U:=U) 3 (l[Int.toNat i]? : Option (Int)) k) Q:=OE (U:=U) (t:=3) h g
theorem Q7 {L:Type} {l:List (Int)} {i:Int} {k:Int->Tr U L} {Q:L->Prop} (h:0<=i/\i<(l.length:Int)) (g:∀v:Int,v∈l->Tot (k v) Q):Tot (Tr.bind (U:=U) 5 (l[Int.toNat i]? : Option (Int)) k) Q:=OE (U:=U) (t:=5) h g
theorem ZDr {L:Type} {l:List (Int)} {i:Int} {k:Int->Tr U L} {Q:L->Prop} (h:0<=i/\i<(l.length:Int)) (g:∀v:Int,v∈l->Tot (k v) Q):Tot (Tr.bind (U:=U) 25 (l[Int.toNat i]? : Option (Int)) k) Q:=OE (U:=U) (t:=25) h g
theorem Zdm {L:Type} {l:List (Am)} {i:Int} {k:Am->Tr U L} {Q:L->Prop} (h:0<=i/\i<(l.length:Int)) (g:∀v:Am,v∈l->Tot (k v) Q):Tot (Tr.bind (U:=U) 148 (l[Int.toNat i]? : Option (Am)) k) Q:=OE (U:=U) (t:=148) h g
theorem ZCo {L:Type} {l:List (Gh)} {i:Int} {k:Gh->Tr U L} {Q:L->Prop} (h:0<=i/\i<(l.length:Int)) (g:∀v:Gh,v∈l->Tot (k v) Q):Tot (Tr.bind (U:=U) 83 (l[Int.toNat i]? : Option (Gh)) k) Q:=OE (U:=U) (t:=83) h g
theorem ZB1 {L:Type} {l:List (Eg)} {i:Int} {k:Eg->Tr U L} {Q:L->Prop} (h:0<=i/\i<(l.length:Int)) (g:∀v:Eg,v∈l->Tot (k v) Q):Tot (Tr.bind (U:=U) 113 (l[Int.toNat i]? : Option (Eg)) k) Q:=OE (U:=U) (t:=113) h g
theorem Jf:(∀(p0:Int),∃r,Wu p0=some r/\True) /\
  (∀(p0:Int),∃r,YW p0=some r/\True) /\
  (∀(p0 p1:Int),∃r,oQ p0 p1=some r/\True) /\
  (∀(p0 p1 p2:Int),∃r,XM p0 p1 p2=some r/\True) /\
  (∀(p0:Dc) (p1:Bool),∃r,Yj p0 p1=some r/\True) /\
  (∀(p0:BU),DT p0->∃r,pI p0=some r/\True) /\
  (∀(p0 p1 p2:Int),∃r,Nh p0 p1 p2=some r/\True) /\
  (∀(p0 p1 p2:Int),∃r,UB p0 p1 p2=some r/\True) /\
  (∃r,Z2J=some r/\(r=Jc)) /\
  (∀(p0:Int),∃r,pM p0=some r/\True) /\
  (∀(p0 p1 p2:Int),CB p1->∃r,Z2v p0 p1 p2=some r/\BJ r) /\
  (∃r,Z0V=some r/\(r.length<=37)) /\
  (∀(p0:Aa),BJ p0->∃r,Y7 p0=some r/\True) /\
  (∀(p0:Int),∃r,lN p0=some r/\True):=by
 refine⟨fun p0=>BD (fun(p:Ws)=>match p with | .b0 ..=>True | .b1 _ _ a2=>0<=a2/\a2<=8) (fun(p:Ws)=>match p with | .b0 ..=>(1,0,0) | .b1 _ _ a2=>(0,(8 - a2).toNat,0)) ?_ _ ?_,
  fun p0=>BD (fun(p:Xr)=>True) (fun(p:Xr)=>(0,0,0)) ?_ _ ?_,
  fun p0 p1=>BD (fun(p:Yi)=>True) (fun(p:Yi)=>(0,0,0)) ?_ _ ?_,
  fun p0 p1 p2=>BD (fun(p:XC)=>True) (fun(p:XC)=>(0,0,0)) ?_ _ ?_,
  fun p0 p1=>BD (fun(p:aQ)=>True) (fun(p:aQ)=>(0,0,0)) ?_ _ ?_,
  fun p0 h0=>BD (fun(p:Ym)=>match p with | .b0 a0=>DT a0) (fun(p:Ym)=>(0,0,0)) ?_ _ ?_,
  fun p0 p1 p2=>BD (fun(p:Xj)=>True) (fun(p:Xj)=>(0,0,0)) ?_ _ ?_,
  fun p0 p1 p2=>BD (fun(p:XG)=>True) (fun(p:XG)=>(0,0,0)) ?_ _ ?_,
  BD (fun(p:dA)=>True) (fun(p:dA)=>(0,0,0)) ?_ _ ?_,
  fun p0=>BD (fun(p:bC)=>True) (fun(p:bC)=>(0,0,0)) ?_ _ ?_,
  fun p0 p1 p2 h0=>BD (fun(p:dB)=>match p with | .b0 _ a1 _=>CB a1) (fun(p:dB)=>(0,0,0)) ?_ _ ?_,
  BD (fun(p:Xu)=>True) (fun(p:Xu)=>(0,0,0)) ?_ _ ?_,
  fun p0 h0=>BD (fun(p:Yb)=>match p with | .b0 a0=>BJ a0) (fun(p:Yb)=>(0,0,0)) ?_ _ ?_,
  fun p0=>BD (fun(p:XN)=>True) (fun(p:XN)=>(0,0,0)) ?_ _ ?_⟩
 all_goals try (intro p hp;cases p)
 all_goals
  try dsimp only at hp
  try exact False.elim hp
  try have hx:=hp
  try dsimp only [BQ,DT,BJ,DX,CO,Ei,Es,EP] at hx
  try (repeat with_reducible (have hq:=And.left hp;replace hp:=And.right hp))
  try simp only [Wn,Z0Q,ZbS,ZQ,Z1R,ZbV,Z0s,Z7S,Zcx,Zcw,Zd6,Z9I,Z16,Z09]
  try dsimp only
  repeat' first|(refine ET ?_;dsimp only;try simp(disch:=omega) only [Bv,Bh,List.nil_append,List.drop_zero])|(refine Ec (fun h=>?_) (fun h=>?_)<;>(try simp only [Ff,reduceCtorEq] at h;try simp(disch:=omega) only [Bv] at h))|refine Dn ?_ ?_|refine Gm ?_|with_reducible apply And.intro|rfl|assumption|exact True.intro|omega|exact decide_eq_true (GK _).1|exact GH (by assumption) (by omega)|exact Gl (by assumption) (by omega)|(refine FW.2 ?_;first|omega|grind)|(apply Fz;first|omega|(simp only [Bh];omega))|(simp only [Dx,Bh,Cf,maxLen_eq,kL,kA]<;>omega)|(simp(disch:=omega) only [Bv,decide_eq_true_eq,bne_iff_ne,ne_eq];(repeat' split)<;>omega)|(simp [D6,Ez];done)|grind|(simp only [Dx,Bh,Cf,maxLen_eq,kL,kA]<;>grind)|grind [EG]
def ZlJ:=Jf.1
def ZaB:=Jf.2.1
def Zv5:=Jf.2.2.1
def Znh:=Jf.2.2.2.1
def Zb6:=Jf.2.2.2.2.1
def ZuL:=Jf.2.2.2.2.2.1
def Z8Z:=Jf.2.2.2.2.2.2.1
def Z7J:=Jf.2.2.2.2.2.2.2.1
def Zyj:=Jf.2.2.2.2.2.2.2.2.1
def Zcz:=Jf.2.2.2.2.2.2.2.2.2.1
def ZyZ:=Jf.2.2.2.2.2.2.2.2.2.2.1
def Zre:=Jf.2.2.2.2.2.2.2.2.2.2.2.1
def Zu2:=Jf.2.2.2.2.2.2.2.2.2.2.2.2.1
def Znc:=Jf.2.2.2.2.2.2.2.2.2.2.2.2.2
theorem KY:(∀(p0:Int),∃r,EN p0=some r/\D6 r) /\
  (∀(p0:Int),∃r,UK p0=some r/\True) /\
  (∀(p0 p1:Int),0<=p1->p1<=8->∃r,Gz p0 p1=some r/\(r.q0.length:Int)=p1/\Cc r.q0) /\
  (∀(p0:Int),∃r,Uh p0=some r/\((r=true->EG p0))) /\
  (∀(p0:Aw),∃r,kC p0=some r/\((r=0->1<=p0.Bq/\p0.Bq<=3/\(1<=p0.Payload.length\/p0.Bq=1)/\p0.Payload.length<=255))) /\
  (∀(p0:Aw),∃r,XA p0=some r/\((r=false->p0.Bq=1->1<=p0.Payload.length))) /\
  (∃r,nZ=some r/\(r=⟨1,[]⟩)) /\
  (∀(p0:Aw),∃r,RQ p0=some r/\((r=false->p0.Bq=1->1<=p0.Payload.length))) /\
  (∀(p0:BM) (p1:List Int),∃r,aI p0 p1=some r/\r = { p0 with BG:={ p0.BG with Payload:=p1 } }) /\
  (∀(p0 p1:Int),0<=p1->p1<=32->∃r,Nr p0 p1=some r/\True) /\
  (∀(p0 p1:Int),0<=p0->p0<=8->∃r,Lh p0 p1=some r/\(r.q0.length:Int)=p0/\Cc r.q0) /\
  (∀(p0:List Int),p0.length<=1000000->∃r,nT p0=some r/\CB r) /\
  (∀(p0 p1:List Int),p0.length<=1000000->∃r,bU p0 p1=some r/\(r.q0.length<=p0.length/\Cc r.q0/\(p0.length<=p1.length->r.q0.length=p0.length))) /\
  (∀(p0:C9) (p1 p2:Int),Gs p0->∃r,YP p0 p1 p2=some r/\CB r):=by
 refine⟨fun p0=>BD (fun(p:X9)=>True) (fun(p:X9)=>match p with | .b0 ..=>(0,0,3) | .b2 ..=>(0,0,2) | .b4 ..=>(0,0,1)|_=>(0,0,0)) ?_ _ ?_,
  fun p0=>BD (fun(p:X5)=>True) (fun(p:X5)=>(0,0,0)) ?_ _ ?_,
  fun p0 p1 h0 h1=>BD (fun(p:bM)=>match p with | .b0 _ a1=>a1=p1/\0<=a1/\a1<=8 | .b1 _ a1 a2 a3=>a1=p1/\0<=a1/\a1<=8/\0<=a3/\a3<=a1/\(a2.length:Int)=a3/\Cc a2) (fun(p:bM)=>match p with | .b0 ..=>(1,0,0) | .b1 _ a1 _ a3=>(0,(a1 - a3).toNat,0)) ?_ _ ?_,
  fun p0=>BD (fun(p:bF)=>match p with | .b0 a0=>a0=p0) (fun(p:bF)=>(0,0,0)) ?_ _ ?_,
  fun p0=>BD (fun(p:WQ)=>match p with | .b0 a0=>a0=p0 | .b1 a0=>a0=p0/\1<=a0.Bq/\a0.Bq<=3 | .b2 a0=>(a0=p0/\1<=a0.Bq/\a0.Bq<=3/\(1<=a0.Payload.length\/a0.Bq=1))) (fun(p:WQ)=>match p with | .b0 ..=>(0,0,2) | .b1 ..=>(0,0,1) | .b2 ..=>(0,0,0)) ?_ _ ?_,
  fun p0=>BD (fun(p:XJ)=>match p with | .b0 a0=>a0=p0) (fun(p:XJ)=>(0,0,0)) ?_ _ ?_,
  BD (fun(p:Xp)=>True) (fun(p:Xp)=>(0,0,0)) ?_ _ ?_,
  fun p0=>BD (fun(p:Y4)=>match p with | .b0 a0=>a0=p0) (fun(p:Y4)=>(0,0,0)) ?_ _ ?_,
  fun p0 p1=>BD (fun(p:aA)=>match p with | .b0 a0 a1=>a0=p0/\a1=p1) (fun(p:aA)=>(0,0,0)) ?_ _ ?_,
  fun p0 p1 h0 h1=>BD (fun(p:Yv)=>match p with | .b0 _ a1=>0<=a1/\a1<=32) (fun(p:Yv)=>(0,0,0)) ?_ _ ?_,
  fun p0 p1 h0 h1=>BD (fun(p:dN)=>match p with | .b0 a0 _=>a0=p0/\0<=a0/\a0<=8 | .b1 a0 _ a2 a3=>a0=p0/\0<=a0/\a0<=8/\0<=a3/\a3<=a0/\(a2.length:Int)=a3/\Cc a2) (fun(p:dN)=>match p with | .b0 ..=>(1,0,0) | .b1 a0 _ _ a3=>(0,(a0 - a3).toNat,0)) ?_ _ ?_,
  fun p0 h0=>BD (fun(p:YL)=>match p with | .b0 a0=>a0.length<=1000000 | .b1 a0 a1 a2=>-1<=a2/\a2<(a0.length:Int)/\a0.length<=1000000/\CB a1) (fun(p:YL)=>match p with | .b0 ..=>(1,0,0) | .b1 _ _ a2=>(0,(a2+1).toNat,0)) ?_ _ ?_,
  fun p0 p1 h0=>BD (fun(p:bT)=>match p with | .b0 a0 a1=>a0=p0/\a1=p1 | .b1 a0 a1 a2 a3=>(a0=p0/\a1=p1/\a0.length<=1000000/\0<=a3/\a3<=(a0.length:Int)/\(p0.length<=p1.length\/a3<=(a1.length:Int))/\(a2.length:Int)=a3/\Cc a2) | .b2 a0 a1 a2 a3=>a0=p0/\a1=p1/\a0.length<=1000000/\0<=a3/\a3<(a0.length:Int)/\a3<(a1.length:Int)/\(a2.length:Int)=a3/\Cc a2) (fun(p:bT)=>match p with | .b0 ..=>(1,0,0) | .b1 a0 _ _ a3=>(0,((a0.length:Int) - a3).toNat,1) | .b2 a0 _ _ a3=>(0,((a0.length:Int) - a3).toNat,0)) ?_ _ ?_,
  fun p0 p1 p2 h0=>BD (fun(p:YM)=>match p with | .b0 a0 _ _=>Gs a0 | .b1 _ _ a2=>Gs a2) (fun(p:YM)=>match p with | .b0 ..=>(0,0,1) | .b1 ..=>(0,0,0)) ?_ _ ?_⟩
 all_goals try (intro p hp;cases p)
 all_goals
  try dsimp only at hp
  try exact False.elim hp
  try have hx:=hp
  try dsimp only [BQ,DT,BJ,DX,CO,Ei,Es,EP] at hx
  try (repeat with_reducible (have hq:=And.left hp;replace hp:=And.right hp))
  try simp only [Nj,Z0A,Ue,Z2M,RG,Z7O,ZaP,Z10,ZbZ,Zbj,Ud,UQ,Rk,nP]
  try dsimp only
  repeat' first|(refine ET ?_;dsimp only;try simp(disch:=omega) only [Bv,Bh,List.nil_append,List.drop_zero])|(refine Ec (fun h=>?_) (fun h=>?_)<;>(try simp only [Ff,reduceCtorEq] at h;try simp(disch:=omega) only [Bv] at h))|refine Dn ?_ ?_|refine Gm ?_|refine Q7 ?_ fun v hv=>?_|with_reducible apply And.intro|rfl|assumption|exact True.intro|omega|exact decide_eq_true (GK _).1|exact GH (by assumption) (by omega)|exact Gl (by assumption) (by omega)|(refine FW.2 ?_;first|omega|grind)|(apply Fz;first|omega|(simp only [Bh];omega))|(simp only [Dx,Bh,Cf,maxLen_eq,kL,kA]<;>omega)|(simp(disch:=omega) only [Bv,decide_eq_true_eq,bne_iff_ne,ne_eq];(repeat' split)<;>omega)|(simp [D6,Ez];done)|grind|(simp only [Dx,Bh,Cf,maxLen_eq,kL,kA]<;>grind)|grind [EG]
def UI:=KY.1
def Zcg:=KY.2.2.1
def ZzE:=KY.2.2.2.1
def ZiS:=KY.2.2.2.2.1
def Z7I:=KY.2.2.2.2.2.1
def ZtF:=KY.2.2.2.2.2.2.1
def Z19:=KY.2.2.2.2.2.2.2.1
def Zvv:=KY.2.2.2.2.2.2.2.2.1
def ZuR:=KY.2.2.2.2.2.2.2.2.2.1
def Z2L:=KY.2.2.2.2.2.2.2.2.2.2.1
def Zsp:=KY.2.2.2.2.2.2.2.2.2.2.2.1
def ZzN:=KY.2.2.2.2.2.2.2.2.2.2.2.2.1
def ZsQ:=KY.2.2.2.2.2.2.2.2.2.2.2.2.2
theorem Jg:(∀(p0:Int),∃r,aK p0=some r/\r.length=3/\Cc r) /\
  (∀(p0 p1:Int),∃r,oM p0 p1=some r/\True) /\
  (∀(p0:Int),∃r,nN p0=some r/\True) /\
  (∀(p0:Int),∃r,oI p0=some r/\True) /\
  (∀(p0:Dc) (p1:Bool),∃r,Z0I p0 p1=some r/\True) /\
  (∀(p0:List BR) (p1:Int) (p2:Bool),p0.length<=37->∃r,Xa p0 p1 p2=some r/\r.length<=37) /\
  (∀(p0 p1:Int),∃r,Z2h p0 p1=some r/\True) /\
  (∀(p0:Int),∃r,QI p0=some r/\True) /\
  (∀(p0 p1:Int),∃r,pX p0 p1=some r/\R16 r) /\
  (∀(p0:AL),∃r,mM p0=some r/\r.Map=p0.Map/\r.DD=p0.DD) /\
  (∀(k:Int) (p0:A8) (p1:Int),BQ k p0->0<=k->k<=1000000->∃r,qE p0 p1=some r/\BQ k r.1/\r.2.length<=1) /\
  (∀(p0:Int),∃r,Zn p0=some r/\True) /\
  (∀(p0:Aa) (p1:AL),BJ p0->Bj p1->∃r,Z0K p0 p1=some r/\Bj r) /\
  (∀(p0:Aa) (p1:Int),BJ p0->∃r,Z18 p0 p1=some r/\True):=by
 refine⟨fun p0=>BD (fun(p:aS)=>True) (fun(p:aS)=>(0,0,0)) ?_ _ ?_,
  fun p0 p1=>BD (fun(p:Yo)=>True) (fun(p:Yo)=>(0,0,0)) ?_ _ ?_,
  fun p0=>BD (fun(p:YN)=>True) (fun(p:YN)=>(0,0,0)) ?_ _ ?_,
  fun p0=>BD (fun(p:Yy)=>True) (fun(p:Yy)=>(0,0,0)) ?_ _ ?_,
  fun p0 p1=>BD (fun(p:X3)=>True) (fun(p:X3)=>(0,0,0)) ?_ _ ?_,
  fun p0 p1 p2 h0=>BD (fun(p:XV)=>match p with | .b0 a0 _ _=>a0.length<=37 | .b1 a0 _ a2=>a2.length<=37/\0<=a0/\a0<(a2.length:Int) | .b2 a0 _ a2=>a2.length<=37/\0<=a0/\a0<(a2.length:Int) | .b3 a0 _ a2=>a2.length<=37/\0<=a0/\a0<(a2.length:Int) | .b4 a0 a1=>a1.length<=37/\0<=a0/\a0<(a1.length:Int)) (fun(p:XV)=>match p with | .b0 ..=>(0,0,4) | .b1 ..=>(0,0,3) | .b2 ..=>(0,0,2) | .b3 ..=>(0,0,1) | .b4 ..=>(0,0,0)) ?_ _ ?_,
  fun p0 p1=>BD (fun(p:Yu)=>True) (fun(p:Yu)=>match p with | .b0 ..=>(0,0,1) | .b1 ..=>(0,0,0)) ?_ _ ?_,
  fun p0=>BD (fun(p:YI)=>True) (fun(p:YI)=>(0,0,0)) ?_ _ ?_,
  fun p0 p1=>BD (fun(p:aX)=>True) (fun(p:aX)=>(0,0,0)) ?_ _ ?_,
  fun p0=>BD (fun(p:Xc)=>match p with | .b0 a0=>a0=p0) (fun(p:Xc)=>(0,0,0)) ?_ _ ?_,
  fun k p0 p1 h0 h1 h2=>BD (fun(p:bY)=>match p with | .b0 a0 _=>BQ k a0) (fun(p:bY)=>(0,0,0)) ?_ _ ?_,
  fun p0=>BD (fun(p:Wl)=>True) (fun(p:Wl)=>match p with | .b0 ..=>(0,0,4) | .b1 ..=>(0,0,3) | .b2 ..=>(0,0,2) | .b3 ..=>(0,0,1) | .b4 ..=>(0,0,0)) ?_ _ ?_,
  fun p0 p1 h0 h1=>BD (fun(p:Xg)=>match p with | .b0 a0 a1=>BJ a0/\Bj a1 | .b1 a0 _=>Bj a0) (fun(p:Xg)=>match p with | .b0 ..=>(0,0,1) | .b1 ..=>(0,0,0)) ?_ _ ?_,
  fun p0 p1 h0=>BD (fun(p:YQ)=>match p with | .b0 a0 _=>BJ a0 | .b1 _ a1 a2=>BJ a2/\0<=a1/\a1<=(a2.BI.length:Int)) (fun(p:YQ)=>match p with | .b0 ..=>(1,0,0) | .b1 _ a1 a2=>(0,((a2.BI.length:Int) - a1).toNat,0)) ?_ _ ?_⟩
 all_goals try (intro p hp;cases p)
 all_goals
  try dsimp only at hp
  try exact False.elim hp
  try have hx:=hp
  try dsimp only [BQ,DT,BJ,DX,CO,Ei,Es,EP] at hx
  try (repeat with_reducible (have hq:=And.left hp;replace hp:=And.right hp))
  try simp only [Z1H,Z20,Z15,Z1P,Z9C,Z9e,Zbi,Za7,Zcr,Z9t,ZcR,Z6S,Z9y,Zau]
  try dsimp only
  repeat' first|(refine ET ?_;dsimp only;try simp(disch:=omega) only [Bv,Bh,List.nil_append,List.drop_zero])|(refine Ec (fun h=>?_) (fun h=>?_)<;>(try simp only [Ff,reduceCtorEq] at h;try simp(disch:=omega) only [Bv] at h))|refine Dn ?_ ?_|refine Gm ?_|refine Z3x ?_ fun v hv=>?_|refine Z2W ?_ fun v hv=>?_|with_reducible apply And.intro|rfl|assumption|exact True.intro|omega|exact decide_eq_true (GK _).1|exact GH (by assumption) (by omega)|exact Gl (by assumption) (by omega)|(refine FW.2 ?_;first|omega|grind)|(apply Fz;first|omega|(simp only [Bh];omega))|(simp only [Dx,Bh,Cf,maxLen_eq,kL,kA]<;>omega)|(simp(disch:=omega) only [Bv,decide_eq_true_eq,bne_iff_ne,ne_eq];(repeat' split)<;>omega)|(simp [D6,Ez];done)|grind|(simp only [Dx,Bh,Cf,maxLen_eq,kL,kA]<;>grind)|grind [EG]
def ZbL:=Jg.1
def Zxb:=Jg.2.1
def ZrZ:=Jg.2.2.1
def Zx8:=Jg.2.2.2.1
def ZoN:=Jg.2.2.2.2.1
def Z9r:=Jg.2.2.2.2.2.1
def Zwn:=Jg.2.2.2.2.2.2.1
def Z9O:=Jg.2.2.2.2.2.2.2.1
def ZxI:=Jg.2.2.2.2.2.2.2.2.1
def Zo4:=Jg.2.2.2.2.2.2.2.2.2.1
def Zck:=Jg.2.2.2.2.2.2.2.2.2.2.1
def Zl9:=Jg.2.2.2.2.2.2.2.2.2.2.2.1
def ZqA:=Jg.2.2.2.2.2.2.2.2.2.2.2.2.1
def Zsr:=Jg.2.2.2.2.2.2.2.2.2.2.2.2.2
theorem Ls:(∀(p0:Int),∃r,lY p0=some r/\True) /\
  (∀(p0:AL),∃r,NG p0=some r/\r=[p0]) /\
  (∀(p0:C9) (p1 p2:Bool),Gs p0->∃r,aP p0 p1 p2=some r/\Gs r) /\
  (∀(p0:Int),∃r,QM p0=some r/\0<=r/\r<=65536) /\
  (∀(p0:List BR) (p1:Int),p0.length<=37->∃r,eH p0 p1=some r/\True) /\
  (∀(p0:List Int),p0.length<=65536->Cc p0->∃r,Z0o p0=some r/\CO r.1.BG) /\
  (∀(p0 p1:List Int),p0.length<=100000->p1.length<=100000->∃r,Z1Q p0 p1=some r/\True) /\
  (∀(p0:Int),∃r,Z1a p0=some r/\True) /\
  (∀(p0:C9) (p1 p2:Bool),Gs p0->∃r,oP p0 p1 p2=some r/\Gs r) /\
  (∀(p0:List Int) (p1 p2:Int),0<=p1->0<=p2->p2<=8->p1+p2<=(p0.length:Int)->p0.length<=1000000->∃r,Lj p0 p1 p2=some r/\CB r) /\
  (∀(p0:List Am) (p1:Int),p0.length<=1->∃r,oD p0 p1=some r/\r.length<=1) /\
  (∀(p0 p1:Int),∃r,LX p0 p1=some r/\r.length=1):=by
 refine⟨fun p0=>BD (fun(p:X7)=>True) (fun(p:X7)=>(0,0,0)) ?_ _ ?_,
  fun p0=>BD (fun(p:aY)=>match p with | .b0 a0=>a0=p0) (fun(p:aY)=>(0,0,0)) ?_ _ ?_,
  fun p0 p1 p2 h0=>BD (fun(p:Yk)=>match p with | .b0 a0 _ _=>Gs a0) (fun(p:Yk)=>(0,0,0)) ?_ _ ?_,
  fun p0=>BD (fun(p:YZ)=>True) (fun(p:YZ)=>(0,0,0)) ?_ _ ?_,
  fun p0 p1 h0=>BD (fun(p:dU)=>match p with | .b0 a0 _=>a0.length<=37 | .b1 ..=>True | .b2 a0 a1 _=>a0.length<=37/\0<=a1/\a1<(a0.length:Int)) (fun(p:dU)=>match p with | .b0 ..=>(0,0,1)|_=>(0,0,0)) ?_ _ ?_,
  fun p0 h0 h1=>BD (fun(p:Xd)=>match p with | .b0 a0=>a0.length<=65536/\Cc a0 | .b1 ..=>True | .b2 a0 _ _ _ _=>2<=a0.length/\a0.length<=65536/\Cc a0) (fun(p:Xd)=>match p with | .b0 ..=>(0,0,1)|_=>(0,0,0)) ?_ _ ?_,
  fun p0 p1 h0 h1=>BD (fun(p:Yt)=>match p with | .b0 a0 a1=>a0.length<=100000/\a1.length<=100000) (fun(p:Yt)=>(0,0,0)) ?_ _ ?_,
  fun p0=>BD (fun(p:YX)=>True) (fun(p:YX)=>(0,0,0)) ?_ _ ?_,
  fun p0 p1 p2 h0=>BD (fun(p:aG)=>match p with | .b0 a0 _ _=>Gs a0 | .b1 _ a1 _=>Gs a1 | .b2 _ a1 _=>Gs a1 | .b3 a0 _=>Gs a0) (fun(p:aG)=>match p with | .b0 ..=>(0,0,3) | .b1 ..=>(0,0,2) | .b2 ..=>(0,0,1) | .b3 ..=>(0,0,0)) ?_ _ ?_,
  fun p0 p1 p2 h0 h1 h2 h3 h4=>BD (fun(p:bD)=>match p with | .b0 a0 a1 a2=>0<=a1/\0<=a2/\a2<=8/\a1+a2<=(a0.length:Int)/\a0.length<=1000000 | .b1 a0 a1 a2 a3=>0<=a1 /\ -1<=a3/\a3<=7/\a1+a3<(a0.length:Int)/\a0.length<=1000000/\CB a2) (fun(p:bD)=>match p with | .b0 ..=>(1,0,0) | .b1 _ _ _ a3=>(0,(a3+1).toNat,0)) ?_ _ ?_,
  fun p0 p1 h0=>BD (fun(p:YE)=>match p with | .b0 a0 _=>a0.length<=1 | .b1 a0 _ a2 a3=>a0.length<=1/\a2.length<=1/\0<=a3/\a3<=(a0.length:Int)/\(a2.length:Int)=a3) (fun(p:YE)=>match p with | .b0 ..=>(1,0,0) | .b1 a0 _ _ a3=>(0,((a0.length:Int) - a3).toNat,0)) ?_ _ ?_,
  fun p0 p1=>BD (fun(p:Yc)=>True) (fun(p:Yc)=>(0,0,0)) ?_ _ ?_⟩
 all_goals try (intro p hp;cases p)
 all_goals
  try dsimp only at hp
  try exact False.elim hp
  try have hx:=hp
  try dsimp only [BQ,DT,BJ,DX,CO,Ei,Es,EP] at hx
  try (repeat with_reducible (have hq:=And.left hp;replace hp:=And.right hp))
  try simp only [Z9x,Zd4,ZaW,Zaq,Zdo,Z8X,ZbY,Zae,ZaX,ZcK,ZaC,Zc1]
  try dsimp only
  repeat' first|(refine ET ?_;dsimp only;try simp(disch:=omega) only [Bv,Bh,List.nil_append,List.drop_zero])|(refine Ec (fun h=>?_) (fun h=>?_)<;>(try simp only [Ff,reduceCtorEq] at h;try simp(disch:=omega) only [Bv] at h))|refine Dn ?_ ?_|refine Gm ?_|refine Z3x ?_ fun v hv=>?_|refine Q7 ?_ fun v hv=>?_|refine Zdm ?_ fun v hv=>?_|with_reducible apply And.intro|rfl|assumption|exact True.intro|omega|exact decide_eq_true (GK _).1|exact GH (by assumption) (by omega)|exact Gl (by assumption) (by omega)|(refine FW.2 ?_;first|omega|grind)|(apply Fz;first|omega|(simp only [Bh];omega))|(simp only [Dx,Bh,Cf,maxLen_eq,kL,kA]<;>omega)|(simp(disch:=omega) only [Bv,decide_eq_true_eq,bne_iff_ne,ne_eq];(repeat' split)<;>omega)|(simp [D6,Ez];done)|grind|(simp only [Dx,Bh,Cf,maxLen_eq,kL,kA]<;>grind)|grind [EG]
def ZoI:=Ls.1
def Z2j:=Ls.2.1
def ZbR:=Ls.2.2.1
def Z0Y:=Ls.2.2.2.1
def ZBf:=Ls.2.2.2.2.1
def Zo3:=Ls.2.2.2.2.2.1
def Zud:=Ls.2.2.2.2.2.2.1
def ZsL:=Ls.2.2.2.2.2.2.2.1
def ZbQ:=Ls.2.2.2.2.2.2.2.2.1
def Z2D:=Ls.2.2.2.2.2.2.2.2.2.1
def ZaD:=Ls.2.2.2.2.2.2.2.2.2.2.1
def Zvx:=Ls.2.2.2.2.2.2.2.2.2.2.2
theorem Z1r:∀(p0:Int),0<=p0->p0<=63->∃r,RS p0=some r/\0<r:=by
 refine fun p0 h0 h1=>BD (fun(p:YA)=>match p with | .b0 a0=>0<=a0/\a0<=63 | .b1 a0 a1 a2=>0<=a2/\a0<=63/\a2<=a0/\a1=2 ^ a2.toNat) (fun(p:YA)=>match p with | .b0 ..=>(1,0,0) | .b1 a0 _ a2=>(0,(a0 - a2).toNat,0)) ?_ _ ?_
 all_goals try (intro p hp;cases p)
 case' b1=>
  dsimp only at hp
  have hx:=hp
  try dsimp only [BQ,DT,BJ,DX,CO,Ei,Es,EP] at hx
  simp only [UT]
  obtain⟨h1,h2,h3,h4⟩:=hp
  refine Ec (fun h=>?_) (fun h=>?_)
  ·simp only [decide_eq_true_eq] at h
   refine ET ?_
   dsimp only
   obtain⟨n,rfl⟩:=Int.eq_ofNat_of_zero_le h1
   rw [Bv (by omega) (by omega)]
   refine⟨⟨by omega,h2,by omega,?_⟩,?_⟩
   ·subst h4
    have hn:n<63:=by omega
    have e1:((n:Int)+1).toNat=n+1:=by omega
    have e2:((n:Int)).toNat=n:=by omega
    have hlt:(2:Int) ^ n*2<18446744073709551616:=by
     have:2 ^ (n+1)<2 ^ 64:=Nat.pow_lt_pow_right (by decide) (by omega)
     have h' : ((2 ^ (n+1):Nat):Int)<((2 ^ 64:Nat):Int):=by exact_mod_cast this
     simpa [Int.pow_succ] using h'
    rw [e1,e2,IntKind.wrap_u64,Int.emod_eq_of_lt (Int.mul_nonneg (Int.pow_nonneg (by decide)) (by decide)) hlt,Int.pow_succ]
   ·refine FW.2 ?_;omega
  ·refine ET ?_
   dsimp only
   subst h4
   exact Int.pow_pos (by decide)
 all_goals
  try dsimp only at hp
  try exact False.elim hp
  try have hx:=hp
  try dsimp only [BQ,DT,BJ,DX,CO,Ei,Es,EP] at hx
  try (repeat with_reducible (have hq:=And.left hp;replace hp:=And.right hp))
  try simp only [UT]
  try dsimp only
  repeat' first|(refine ET ?_;dsimp only;try simp(disch:=omega) only [Bv,Bh,List.nil_append,List.drop_zero])|(refine Ec (fun h=>?_) (fun h=>?_)<;>(try simp only [Ff,reduceCtorEq] at h;try simp(disch:=omega) only [Bv] at h))|refine Dn ?_ ?_|refine Gm ?_|with_reducible apply And.intro|rfl|assumption|exact True.intro|omega|exact decide_eq_true (GK _).1|exact GH (by assumption) (by omega)|exact Gl (by assumption) (by omega)|(refine FW.2 ?_;first|omega|grind)|(apply Fz;first|omega|(simp only [Bh];omega))|(simp only [Dx,Bh,Cf,maxLen_eq,kL,kA]<;>omega)|(simp(disch:=omega) only [Bv,decide_eq_true_eq,bne_iff_ne,ne_eq];(repeat' split)<;>omega)|(simp [D6,Ez];done)|grind|(simp only [Dx,Bh,Cf,maxLen_eq,kL,kA]<;>grind)|grind [EG]
theorem ZxZ:∀(p0 p1:Int),∃r,U9 p0 p1=some r/\True:=by
 refine fun p0 p1=>BD (fun(p:dL)=>True) (fun(p:dL)=>match p with | .b0 ..=>(0,0,1) | .b1 ..=>(0,0,0)) ?_ _ ?_
 all_goals try (intro p hp;cases p)
 case' b0 a0 a1=>
  have hb : -64<Int.tmod (AP (AP (a1.tmod 64+64)*11)) 64/\Int.tmod (AP (AP (a1.tmod 64+64)*11)) 64<64:=tm_bd _ 64 (by omega)
 all_goals
  try dsimp only at hp
  try exact False.elim hp
  try have hx:=hp
  try dsimp only [BQ,DT,BJ,DX,CO,Ei,Es,EP] at hx
  try (repeat with_reducible (have hq:=And.left hp;replace hp:=And.right hp))
  try simp only [bK]
  try dsimp only
  repeat' first|(refine ET ?_;dsimp only;try simp(disch:=omega) only [Bv,Bh,List.nil_append,List.drop_zero])|(refine Ec (fun h=>?_) (fun h=>?_)<;>(try simp only [Ff,reduceCtorEq] at h;try simp(disch:=omega) only [Bv] at h))|refine Dn ?_ ?_|refine Gm ?_|with_reducible apply And.intro|rfl|assumption|exact True.intro|omega|exact decide_eq_true (GK _).1|exact GH (by assumption) (by omega)|exact Gl (by assumption) (by omega)|(refine FW.2 ?_;first|omega|grind)|(apply Fz;first|omega|(simp only [Bh];omega))|(simp only [Dx,Bh,Cf,maxLen_eq,kL,kA]<;>omega)|(simp(disch:=omega) only [Bv,decide_eq_true_eq,bne_iff_ne,ne_eq];(repeat' split)<;>omega)|(simp [D6,Ez];done)|grind|(simp only [Dx,Bh,Cf,maxLen_eq,kL,kA]<;>grind)|grind [EG]
theorem KX:(∀(p0 p1:Int),∃r,X0 p0 p1=some r/\True) /\
  (∀(p0 p1:Int),∃r,Ui p0 p1=some r/\True) /\
  (∀(p0 p1:Int),∃r,kU p0 p1=some r/\True) /\
  (∀(k:Int) (p0:A8),BQ k p0->0<=k->k<=1000000->∃r,UN p0=some r/\True) /\
  (∀(p0:DL),∃r,WJ p0=some r/\True) /\
  (∀(p0:Int),∃r,Z11 p0=some r/\True) /\
  (∀(p0:DL),∃r,Z0h p0=some r/\True) /\
  (∀(p0:DL),∃r,Z1T p0=some r/\True) /\
  (∀(p0:AL),Bj p0->∃r,oW p0=some r/\Bj r) /\
  (∀(p0:DL),∃r,kQ p0=some r/\r.length=9/\Cc r) /\
  (∀(p0:BM),∃r,Nk p0=some r/\((r=0->EG p0.SN/\EG p0.EF/\EG p0.MD/\1<=p0.BG.Bq/\p0.BG.Bq<=3/\(1<=p0.BG.Payload.length\/p0.BG.Bq=1)/\p0.BG.Payload.length<=255))) /\
  (∀(p0:BU),DT p0->∃r,oN p0=some r/\DT r.1/\r.1.Open=true/\CO r.2.BG) /\
  (∀(p0 p1 p2:Int),∃r,nS p0 p1 p2=some r/\True) /\
  (∀(p0:Int) (p1 p2:List Int),p1.length<=200000->p2.length<=200000->∃r,nI p0 p1 p2=some r/\r.q0.length<=400100):=by
 refine⟨fun p0 p1=>BD (fun(p:XP)=>match p with | .b0 ..=>True | .b1 _ _ a2=>0<=a2/\a2<=3) (fun(p:XP)=>match p with | .b0 ..=>(1,0,0) | .b1 _ _ a2=>(0,(3 - a2).toNat,0)) ?_ _ ?_,
  fun p0 p1=>BD (fun(p:bI)=>True) (fun(p:bI)=>(0,0,0)) ?_ _ ?_,
  fun p0 p1=>BD (fun(p:Wq)=>True) (fun(p:Wq)=>match p with | .b0 ..=>(0,0,1) | .b1 ..=>(0,0,0)) ?_ _ ?_,
  fun k p0 h0 h1 h2=>BD (fun(p:Xl)=>match p with | .b0 a0=>BQ k a0) (fun(p:Xl)=>(0,0,0)) ?_ _ ?_,
  fun p0=>BD (fun(p:WM)=>True) (fun(p:WM)=>match p with | .b0 ..=>(0,0,1) | .b1 ..=>(0,0,0)) ?_ _ ?_,
  fun p0=>BD (fun(p:Y2)=>True) (fun(p:Y2)=>(0,0,0)) ?_ _ ?_,
  fun p0=>BD (fun(p:X4)=>True) (fun(p:X4)=>(0,0,0)) ?_ _ ?_,
  fun p0=>BD (fun(p:aV)=>True) (fun(p:aV)=>(0,0,0)) ?_ _ ?_,
  fun p0 h0=>BD (fun(p:Yr)=>match p with | .b0 a0=>Bj a0 | .b1 a0 _ _=>Bj a0 | .b2 a0 _ _=>Bj a0 | .b3 a0 _ _=>Bj a0 | .b4 a0 _ _=>Bj a0 | .b5 a0 _ _=>Bj a0 | .b6 a0 _ _=>Bj a0 | .b7 a0 _ _=>Bj a0 | .b8 a0 _ _=>Bj a0 | .b9 a0 _ _=>Bj a0) (fun(p:Yr)=>match p with | .b0 ..=>(0,0,9) | .b1 ..=>(0,0,8) | .b2 ..=>(0,0,7) | .b3 ..=>(0,0,6) | .b4 ..=>(0,0,5) | .b5 ..=>(0,0,4) | .b6 ..=>(0,0,3) | .b7 ..=>(0,0,2) | .b8 ..=>(0,0,1) | .b9 ..=>(0,0,0)) ?_ _ ?_,
  fun p0=>BD (fun(p:Wi)=>True) (fun(p:Wi)=>(0,0,0)) ?_ _ ?_,
  fun p0=>BD (fun(p:Y1)=>match p with | .b0 a0=>a0=p0 | .b1 a0=>a0=p0/\EG a0.SN/\EG a0.EF/\EG a0.MD) (fun(p:Y1)=>match p with | .b0 ..=>(0,0,1) | .b1 ..=>(0,0,0)) ?_ _ ?_,
  fun p0 h0=>BD (fun(p:aF)=>match p with | .b0 a0=>DT a0 | .b1 a0 _ _=>DT a0/\a0.Open=true | .b2 _ a1 _ _ a4=>DT a1/\CO a4.BG/\a1.Open=true/\a1.Empty=false | .b3 _ a1 _ _ a4=>DT a1/\CO a4.BG/\a1.Open=true | .b4 a0 _ _ a3=>DT a0/\CO a3.BG/\a0.Open=true) (fun(p:aF)=>match p with | .b0 ..=>(0,0,4) | .b1 ..=>(0,0,3) | .b2 ..=>(0,0,2) | .b3 ..=>(0,0,1) | .b4 ..=>(0,0,0)) ?_ _ ?_,
  fun p0 p1 p2=>BD (fun(p:YY)=>True) (fun(p:YY)=>(0,0,0)) ?_ _ ?_,
  fun p0 p1 p2 h0 h1=>BD (fun(p:Xq)=>match p with | .b0 _ a1 a2=>a1.length<=200000/\a2.length<=200000) (fun(p:Xq)=>(0,0,0)) ?_ _ ?_⟩
 all_goals try (intro p hp;cases p)
 all_goals
  try dsimp only at hp
  try exact False.elim hp
  try have hx:=hp
  try dsimp only [BQ,DT,BJ,DX,CO,Ei,Es,EP] at hx
  try (repeat with_reducible (have hq:=And.left hp;replace hp:=And.right hp))
  try simp only [UG,Z2A,kS,Z0R,jZ,Za2,Z90,Zb1,Gf,Zg,YT,ND,Z0X,Z0U]
  try dsimp only
  repeat' first|(refine ET ?_;dsimp only;try simp(disch:=omega) only [Bv,Bh,List.nil_append,List.drop_zero])|(refine Ec (fun h=>?_) (fun h=>?_)<;>(try simp only [Ff,reduceCtorEq] at h;try simp(disch:=omega) only [Bv] at h))|refine Dn ?_ ?_|refine Gm ?_|refine Aq (ZlJ _) fun(v:Int) hm hv=>?_|refine Aq (Z1r _ ?_ ?_) fun(v:Int) hm hv=>?_|refine Aq (Znh _ _ _) fun(v:Int) hm hv=>?_|refine Aq (ZuL _ ?_) fun(v:Bool) hm hv=>?_|refine Aq (Zb6 _ _) fun(v:Bool) hm hv=>?_|refine Aq (Z8Z _ _ _) fun(v:Bool) hm hv=>?_|refine Aq (Z7J _ _ _) fun(v:Int) hm hv=>?_|refine Aq (UI _) fun(v:Be) hm hv=>?_|refine Aq (Zcg _ _ ?_ ?_) fun(v:I8) hm hv=>?_|refine Aq (ZzE _) fun(v:Bool) hm hv=>?_|refine Aq (ZiS _) fun(v:Int) hm hv=>?_|refine Aq (ZtF) fun(v:Aw) hm hv=>?_|refine Ze5 ?_ fun v hv=>?_|refine Aq (ZxZ _ _) fun(v:Int) hm hv=>?_|refine Aq (ZuR _ _ ?_ ?_) fun(v:Int) hm hv=>?_|refine Aq (Z2L _ _ ?_ ?_) fun(v:KN) hm hv=>?_|with_reducible apply And.intro|rfl|assumption|exact True.intro|omega|exact decide_eq_true (GK _).1|exact GH (by assumption) (by omega)|exact Gl (by assumption) (by omega)|(refine FW.2 ?_;first|omega|grind)|(apply Fz;first|omega|(simp only [Bh];omega))|(simp only [Dx,Bh,Cf,maxLen_eq,kL,kA]<;>omega)|(simp(disch:=omega) only [Bv,decide_eq_true_eq,bne_iff_ne,ne_eq];(repeat' split)<;>omega)|(simp [D6,Ez];done)|grind|(simp only [Dx,Bh,Cf,maxLen_eq,kL,kA]<;>grind)|grind [EG]
def Z9c:=KX.1
def Zcq:=KX.2.1
def Zlw:=KX.2.2.1
def Z9U:=KX.2.2.2.1
def ZiL:=KX.2.2.2.2.1
def ZsN:=KX.2.2.2.2.2.1
def ZoR:=KX.2.2.2.2.2.2.1
def Zvn:=KX.2.2.2.2.2.2.2.1
def Zkm:=KX.2.2.2.2.2.2.2.2.2.1
def mZ:=KX.2.2.2.2.2.2.2.2.2.2.1
def Zb0:=KX.2.2.2.2.2.2.2.2.2.2.2.1
def ZrL:=KX.2.2.2.2.2.2.2.2.2.2.2.2.1
def Zu3:=KX.2.2.2.2.2.2.2.2.2.2.2.2.2
theorem Ji:(∀(p0:Int) (p1:List Int),p1.length<=1000000->∃r,dC p0 p1=some r/\True) /\
  (∀(p0 p1:Int),0<=p1->p1<=1000000->∃r,kV p0 p1=some r/\(r.length:Int)=p1/\Cc r) /\
  (∀(p0:Dc),∃r,Z2b p0=some r/\True) /\
  (∀(p0 p1:Int),∃r,mQ p0 p1=some r/\True) /\
  (∀(p0:Dc) (p1:Int),∃r,Z2m p0 p1=some r/\True) /\
  (∀(p0:Aa) (p1:AL),BJ p0->Bj p1->∃r,qB p0 p1=some r/\True) /\
  (∀(p0 p1:Int),∃r,Z23 p0 p1=some r/\R16 r) /\
  (∀(k:Int) (p0:A8),BQ k p0->0<=k->k<=1000000->∃r,nO p0=some r/\R16 r) /\
  (∀(p0 p1 p2:Int),∃r,oZ p0 p1 p2=some r/\True) /\
  (∀(p0:DL),∃r,ZV p0=some r/\True) /\
  (∀(p0:Int),∃r,Zl p0=some r/\True) /\
  (∀(p0:Aa) (p1:Int),BJ p0->∃r,Z0f p0 p1=some r/\True) /\
  (∀(p0:Aa) (p1:Bool) (p2:Int),BJ p0->CB p2->∃r,Z0J p0 p1 p2=some r/\BJ r.1/\r.2.length<=2/\FC r.2) /\
  (∀(p0:BR),∃r,aJ p0=some r/\True):=by
 refine⟨fun p0 p1 h0=>BD (fun(p:dJ)=>match p with | .b0 _ a1=>a1.length<=1000000 | .b1 a0 _ a2=>0<=a2/\a2<=(a0.length:Int)/\a0.length<=1000000 | .b2 a0 _ a2 _ a4=>0<=a2/\a2<(a0.length:Int)/\a0.length<=1000000/\0<=a4/\a4<=8) (fun(p:dJ)=>match p with | .b0 ..=>(2,0,0) | .b1 a0 _ a2=>(1,((a0.length:Int) - a2).toNat,9) | .b2 a0 _ a2 _ a4=>(1,((a0.length:Int) - a2).toNat,(8 - a4).toNat)) ?_ _ ?_,
  fun p0 p1 h0 h1=>BD (fun(p:Wv)=>match p with | .b0 _ a1=>a1=p1/\0<=a1/\a1<=1000000 | .b1 a0 a1 _ a3=>a0=p1/\a0<=1000000/\0<=a3/\a3<=a0/\(a1.length:Int)=a3/\Cc a1 | .b2 a0 a1 _ a3 _ _ a6=>a0=p1/\a0<=1000000/\0<=a3/\a3<a0/\(a1.length:Int)=a3/\Cc a1/\0<=a6/\a6<=8) (fun(p:Wv)=>match p with | .b0 ..=>(2,0,0) | .b1 a0 _ _ a3=>(1,(a0 - a3).toNat,9) | .b2 a0 _ _ a3 _ _ a6=>(1,(a0 - a3).toNat,(8 - a6).toNat)) ?_ _ ?_,
  fun p0=>BD (fun(p:Ye)=>True) (fun(p:Ye)=>(0,0,0)) ?_ _ ?_,
  fun p0 p1=>BD (fun(p:XZ)=>True) (fun(p:XZ)=>(0,0,0)) ?_ _ ?_,
  fun p0 p1=>BD (fun(p:aW)=>True) (fun(p:aW)=>(0,0,0)) ?_ _ ?_,
  fun p0 p1 h0 h1=>BD (fun(p:dH)=>match p with | .b0 a0 a1=>BJ a0/\Bj a1) (fun(p:dH)=>(0,0,0)) ?_ _ ?_,
  fun p0 p1=>BD (fun(p:aN)=>True) (fun(p:aN)=>(0,0,0)) ?_ _ ?_,
  fun k p0 h0 h1 h2=>BD (fun(p:Xn)=>match p with | .b0 a0=>BQ k a0) (fun(p:Xn)=>(0,0,0)) ?_ _ ?_,
  fun p0 p1 p2=>BD (fun(p:Yf)=>True) (fun(p:Yf)=>(0,0,0)) ?_ _ ?_,
  fun p0=>BD (fun(p:XI)=>True) (fun(p:XI)=>(0,0,0)) ?_ _ ?_,
  fun p0=>BD (fun(p:W9)=>True) (fun(p:W9)=>(0,0,0)) ?_ _ ?_,
  fun p0 p1 h0=>BD (fun(p:XL)=>match p with | .b0 a0 _=>BJ a0 | .b1 _ a1=>BJ a1 | .b2 _ a1=>BJ a1) (fun(p:XL)=>match p with | .b0 ..=>(0,0,2) | .b1 ..=>(0,0,1) | .b2 ..=>(0,0,0)) ?_ _ ?_,
  fun p0 p1 p2 h0 h1=>BD (fun(p:XW)=>match p with | .b0 a0 _ a2=>BJ a0/\CB a2 | .b1 _ a1 a2 _=>BJ a2/\CB a1) (fun(p:XW)=>match p with | .b0 ..=>(0,0,1) | .b1 ..=>(0,0,0)) ?_ _ ?_,
  fun p0=>BD (fun(p:Yg)=>True) (fun(p:Yg)=>(0,0,0)) ?_ _ ?_⟩
 all_goals try (intro p hp;cases p)
 all_goals
  try dsimp only at hp
  try exact False.elim hp
  try have hx:=hp
  try dsimp only [BQ,DT,BJ,DX,CO,Ei,Es,EP] at hx
  try (repeat with_reducible (have hq:=And.left hp;replace hp:=And.right hp))
  try simp only [Ld,Ku,ZaS,Z9F,ZcE,Zc9,Zbp,Zay,ZaZ,Z8m,Z71,Z8M,Z9B,Zbm]
  try dsimp only
  repeat' first|(refine ET ?_;dsimp only;try simp(disch:=omega) only [Bv,Bh,List.nil_append,List.drop_zero])|(refine Ec (fun h=>?_) (fun h=>?_)<;>(try simp only [Ff,reduceCtorEq] at h;try simp(disch:=omega) only [Bv] at h))|refine Dn ?_ ?_|refine Gm ?_|refine Q7 ?_ fun v hv=>?_|refine Aq (Zxb _ _) fun(v:Int) hm hv=>?_|refine Aq (ZrZ _) fun(v:Int) hm hv=>?_|refine Aq (Zx8 _) fun(v:Int) hm hv=>?_|refine Aq (Zb6 _ _) fun(v:Bool) hm hv=>?_|refine Aq (Zwn _ _) fun(v:Int) hm hv=>?_|refine Aq (Zcz _) fun(v:Dc) hm hv=>?_|refine Aq (Z9O _) fun(v:Bool) hm hv=>?_|refine Aq (ZxI _ _) fun(v:Int) hm hv=>?_|refine Aq (Z7J _ _ _) fun(v:Int) hm hv=>?_|refine Aq (UI _) fun(v:Be) hm hv=>?_|refine Aq (Zl9 _) fun(v:Int) hm hv=>?_|refine Aq (Zsr _ _ ?_) fun(v:Bool) hm hv=>?_|refine Aq (Z2j _) fun(v:(List AL)) hm hv=>?_|refine Aq (Z0Y _) fun(v:Int) hm hv=>?_|with_reducible apply And.intro|rfl|assumption|exact True.intro|omega|exact decide_eq_true (GK _).1|exact GH (by assumption) (by omega)|exact Gl (by assumption) (by omega)|(refine FW.2 ?_;first|omega|grind)|(apply Fz;first|omega|(simp only [Bh];omega))|(simp only [Dx,Bh,Cf,maxLen_eq,kL,kA]<;>omega)|(simp(disch:=omega) only [Bv,decide_eq_true_eq,bne_iff_ne,ne_eq];(repeat' split)<;>omega)|(simp [D6,Ez];done)|grind|(simp only [Dx,Bh,Cf,maxLen_eq,kL,kA]<;>grind)|grind [EG]
def ZcO:=Ji.1
def ZlP:=Ji.2.1
def ZvI:=Ji.2.2.1
def Zox:=Ji.2.2.2.1
def Zys:=Ji.2.2.2.2.1
def ZzQ:=Ji.2.2.2.2.2.1
def ZvE:=Ji.2.2.2.2.2.2.1
def Zrl:=Ji.2.2.2.2.2.2.2.1
def Zxh:=Ji.2.2.2.2.2.2.2.2.1
def ZnM:=Ji.2.2.2.2.2.2.2.2.2.1
def ZkN:=Ji.2.2.2.2.2.2.2.2.2.2.1
def Zmn:=Ji.2.2.2.2.2.2.2.2.2.2.2.1
def ZoZ:=Ji.2.2.2.2.2.2.2.2.2.2.2.2.1
def ZbP:=Ji.2.2.2.2.2.2.2.2.2.2.2.2.2
theorem KW:(∀(p0:Int),∃r,U4 p0=some r/\r.length<=37/\Hm r) /\
  (∀(k:Int) (p0:A8),BQ k p0->0<=k->k<=1000000->∃r,mD p0=some r/\True) /\
  (∀(p0:Int) (p1:DL),∃r,Z1h p0 p1=some r/\True) /\
  (∀(p0:AL),Bj p0->∃r,QE p0=some r/\(r.1.length<=60/\Cc r.1/\(r.2=0->1<=r.1.length))) /\
  (∀(p0:BU) (p1:Aw),DT p0->CO p1->∃r,Y0 p0 p1=some r/\DT r.1) /\
  (∀(p0 p1:Int),∃r,QP p0 p1=some r/\CB r) /\
  (∀(p0:BM),CO p0.BG->∃r,mF p0=some r/\r.1.length<=257/\Cc r.1) /\
  (∀(p0:Int) (p1:List Int),p1.length<=100000->Cc p1->∃r,mW p0 p1=some r/\r.length=p1.length+3/\Cc r) /\
  (∀(p0:Int) (p1:List Int),p1.length<=100000->∃r,YD p0 p1=some r/\r.q0.length=p1.length/\Cc r.q0) /\
  (∀(p0:List BN) (p1:Int),(p0.length<=1/\FT p0)->∃r,Z2r p0 p1=some r/\r.1.length<=1/\FT r.1/\r.2.length<=1/\FT r.2) /\
  (∀(k:Int) (p0:A8) (p1:BN),BQ k p0->Kq p1->0<=k->k<=1000000->∃r,Z1v p0 p1=some r/\BQ k r) /\
  (∀(p0:Int) (p1:BN),Kq p1->∃r,Z1z p0 p1=some r/\True) /\
  (∀(p0:Aa) (p1:Int),BJ p0->∃r,Z02 p0 p1=some r/\True) /\
  (∀(p0:BR),∃r,Z2O p0=some r/\True):=by
 refine⟨fun p0=>BD (fun(p:aT)=>match p with | .b0 ..=>True | .b1 _ a1 a2=>0<=a2/\a2<=37/\(a1.length:Int)<=a2/\Hm a1 | .b2 _ a1 a2=>0<=a2/\a2<=36/\(a1.length:Int)<=a2+1/\Hm a1) (fun(p:aT)=>match p with | .b0 ..=>(1,0,0) | .b1 _ _ a2=>(0,(37 - a2).toNat,1) | .b2 _ _ a2=>(0,(37 - a2).toNat,0)) ?_ _ ?_,
  fun k p0 h0 h1 h2=>BD (fun(p:X6)=>match p with | .b0 a0=>BQ k a0) (fun(p:X6)=>(0,0,0)) ?_ _ ?_,
  fun p0 p1=>BD (fun(p:YS)=>True) (fun(p:YS)=>(0,0,0)) ?_ _ ?_,
  fun p0 h0=>BD (fun(p:Xh)=>match p with | .b0 a0=>Bj a0 | .b1 a0 a1 _=>Bj a1/\1<=a0.length/\a0.length<=10/\Cc a0 | .b2 a0 a1 _=>Bj a1/\1<=a0.length/\a0.length<=15/\Cc a0 | .b3 a0 a1 _=>Bj a1/\1<=a0.length/\a0.length<=17/\Cc a0 | .b4 a0 a1 _=>Bj a1/\1<=a0.length/\a0.length<=18/\Cc a0 | .b5 a0 a1 _=>Bj a1/\1<=a0.length/\a0.length<=19/\Cc a0 | .b6 a0 a1 _=>Bj a1/\1<=a0.length/\a0.length<=27/\Cc a0 | .b7 a0 a1 _=>Bj a1/\1<=a0.length/\a0.length<=35/\Cc a0 | .b8 a0 a1 _=>Bj a1/\1<=a0.length/\a0.length<=43/\Cc a0 | .b9 a0 a1 _=>Bj a1/\1<=a0.length/\a0.length<=44/\Cc a0) (fun(p:Xh)=>match p with | .b0 ..=>(0,0,9) | .b1 ..=>(0,0,8) | .b2 ..=>(0,0,7) | .b3 ..=>(0,0,6) | .b4 ..=>(0,0,5) | .b5 ..=>(0,0,4) | .b6 ..=>(0,0,3) | .b7 ..=>(0,0,2) | .b8 ..=>(0,0,1) | .b9 ..=>(0,0,0)) ?_ _ ?_,
  fun p0 p1 h0 h1=>BD (fun(p:Ya)=>match p with | .b0 a0 a1=>DT a0/\CO a1 | .b1 a0 a1 _=>DT a0/\CO a1/\Ei a1) (fun(p:Ya)=>match p with | .b0 ..=>(0,0,1) | .b1 ..=>(0,0,0)) ?_ _ ?_,
  fun p0 p1=>BD (fun(p:cO)=>match p with | .b0 ..=>True | .b1 _ _ _ a3=>0<=a3/\a3<=8) (fun(p:cO)=>match p with | .b0 ..=>(1,0,0) | .b1 _ _ _ a3=>(0,(8 - a3).toNat,0)) ?_ _ ?_,
  fun p0 h0=>BD (fun(p:XO)=>match p with | .b0 a0=>CO a0.BG) (fun(p:XO)=>(0,0,0)) ?_ _ ?_,
  fun p0 p1 h0 h1=>BD (fun(p:XX)=>match p with | .b0 _ a1=>a1=p1) (fun(p:XX)=>(0,0,0)) ?_ _ ?_,
  fun p0 p1 h0=>BD (fun(p:Y6)=>match p with | .b0 _ a1=>a1=p1 | .b1 a0 a1 a2 a3=>a0=p1/\a0.length<=100000/\a1.length=p1.length/\0<=a3/\a3<=(a0.length:Int)/\(a2.length:Int)=a3/\Cc a2) (fun(p:Y6)=>match p with | .b0 ..=>(1,0,0) | .b1 a0 _ _ a3=>(0,((a0.length:Int) - a3).toNat,0)) ?_ _ ?_,
  fun p0 p1 h0=>BD (fun(p:bV)=>match p with | .b0 a0 _=>a0.length<=1/\FT a0 | .b1 a0 _ a2 a3 a4=>a0.length<=1/\FT a0/\a2.length<=1/\FT a2/\a3.length<=1/\FT a3/\0<=a4/\a4<=(a0.length:Int)/\(a2.length:Int)+(a3.length:Int)<=a4 | .b2 a0 _ a2 a3 a4=>a0.length<=1/\FT a0/\a2.length<=1/\FT a2/\a3.length<=1/\FT a3/\0<=a4/\a4<(a0.length:Int)/\(a2.length:Int)+(a3.length:Int)<=a4+1) (fun(p:bV)=>match p with | .b0 ..=>(1,0,0) | .b1 a0 _ _ _ a4=>(0,((a0.length:Int) - a4).toNat,1) | .b2 a0 _ _ _ a4=>(0,((a0.length:Int) - a4).toNat,0)) ?_ _ ?_,
  fun k p0 p1 h0 h1 h2 h3=>BD (fun(p:YK)=>match p with | .b0 a0 a1=>BQ k a0/\Kq a1 | .b1 a0 a1 _=>BQ k a0/\Kq a1) (fun(p:YK)=>match p with | .b0 ..=>(0,0,1) | .b1 ..=>(0,0,0)) ?_ _ ?_,
  fun p0 p1 h0=>BD (fun(p:Y8)=>match p with | .b0 _ a1=>Kq a1 | .b1 _ a1=>Kq a1) (fun(p:Y8)=>match p with | .b0 ..=>(0,0,1) | .b1 ..=>(0,0,0)) ?_ _ ?_,
  fun p0 p1 h0=>BD (fun(p:XK)=>match p with | .b0 a0 _=>BJ a0) (fun(p:XK)=>(0,0,0)) ?_ _ ?_,
  fun p0=>BD (fun(p:dF)=>True) (fun(p:dF)=>(0,0,0)) ?_ _ ?_⟩
 all_goals try (intro p hp;cases p)
 all_goals
  try dsimp only at hp
  try exact False.elim hp
  try have hx:=hp
  try dsimp only [BQ,DT,BJ,DX,CO,Ei,Es,EP] at hx
  try (repeat with_reducible (have hq:=And.left hp;replace hp:=And.right hp))
  try simp only [Oi,Z0H,ZaL,Gx,UM,Ri,Z0u,Z0l,UX,Zca,ZaM,Zax,Z8s,ZcW]
  try dsimp only
  repeat' first|(refine ET ?_;dsimp only;try simp(disch:=omega) only [Bv,Bh,List.nil_append,List.drop_zero])|(refine Ec (fun h=>?_) (fun h=>?_)<;>(try simp only [Ff,reduceCtorEq] at h;try simp(disch:=omega) only [Bv] at h))|refine Dn ?_ ?_|refine Gm ?_|refine Aq (Zcq _ _) fun(v:Bool) hm hv=>?_|refine Aq (Zlw _ _) fun(v:Int) hm hv=>?_|refine Aq (ZsN _) fun(v:Int) hm hv=>?_|refine Aq (ZoR _) fun(v:Int) hm hv=>?_|refine Aq (Zvn _) fun(v:Int) hm hv=>?_|refine Aq (Z0W _ ?_) fun(v:Int) hm hv=>?_|refine Aq (UI _) fun(v:Be) hm hv=>?_|refine Aq (Zkm _) fun(v:(List Int)) hm hv=>?_|refine Aq (Zcg _ _ ?_ ?_) fun(v:I8) hm hv=>?_|refine Aq (Z7I _) fun(v:Bool) hm hv=>?_|refine Aq (mZ _) fun(v:Int) hm hv=>?_|refine Aq (ZrL _ _ _) fun(v:Int) hm hv=>?_|refine Aq (ZcO _ _ ?_) fun(v:Int) hm hv=>?_|refine Aq (ZbL _) fun(v:(List Int)) hm hv=>?_|refine Aq (ZlP _ _ ?_ ?_) fun(v:(List Int)) hm hv=>?_|refine Q7 ?_ fun v hv=>?_|refine Aq (Zox _ _) fun(v:Bool) hm hv=>?_|refine Z3a ?_ fun v hv=>?_|refine Aq (Zys _ _) fun(v:Dc) hm hv=>?_|refine Aq (Zxh _ _ _) fun(v:Bool) hm hv=>?_|refine Aq (Z0Y _) fun(v:Int) hm hv=>?_|refine Aq (ZbP _) fun(v:Int) hm hv=>?_|with_reducible apply And.intro|rfl|assumption|exact True.intro|omega|exact decide_eq_true (GK _).1|exact GH (by assumption) (by omega)|exact Gl (by assumption) (by omega)|(refine FW.2 ?_;first|omega|grind)|(apply Fz;first|omega|(simp only [Bh];omega))|(simp only [Dx,Bh,Cf,maxLen_eq,kL,kA]<;>omega)|(simp(disch:=omega) only [Bv,decide_eq_true_eq,bne_iff_ne,ne_eq];(repeat' split)<;>omega)|(simp [D6,Ez];done)|grind|(simp only [Dx,Bh,Cf,maxLen_eq,kL,kA]<;>grind)|grind [EG]
def ZbU:=KW.1
def Zrx:=KW.2.2.1
def Zq3:=KW.2.2.2.1
def Zr8:=KW.2.2.2.2.1
def Zy3:=KW.2.2.2.2.2.1
def Z9E:=KW.2.2.2.2.2.2.1
def Z97:=KW.2.2.2.2.2.2.2.1
def Zt4:=KW.2.2.2.2.2.2.2.2.1
def ZyG:=KW.2.2.2.2.2.2.2.2.2.1
def Zr6:=KW.2.2.2.2.2.2.2.2.2.2.1
def Zt5:=KW.2.2.2.2.2.2.2.2.2.2.2.1
def Zn8:=KW.2.2.2.2.2.2.2.2.2.2.2.2.1
def Zyk:=KW.2.2.2.2.2.2.2.2.2.2.2.2.2
theorem PU:(∀(p0:List Int),p0.length<=37->Hm p0->∃r,Z35 p0=some r/\CB r) /\
  (∀(p0:List BR),p0.length<=37->∃r,Z0S p0=some r/\r.length<=37) /\
  (∀(p0:List Int) (p1:Int),0<=p1->p1+9<=(p0.length:Int)->p0.length<=1000000->∃r,Z5 p0 p1=some r/\True) /\
  (∀(p0:Aa) (p1:AL),BJ p0->Bj p1->∃r,Z1O p0 p1=some r/\BJ r.1/\r.2.length<=1) /\
  (∀(p0:Aa) (p1:AL) (p2:Int),BJ p0->Bj p1->∃r,yP p0 p1 p2=some r/\BJ r.1/\r.2.1.length<=8/\FC r.2.1/\r.2.2.length<=1) /\
  (∀(p0:Aa) (p1:AL),BJ p0->Bj p1->∃r,xC p0 p1=some r/\BJ r.1/\r.2.1.length<=8/\FC r.2.1/\r.2.2.length<=1) /\
  (∀(p0:Aa) (p1:AL) (p2:Int),BJ p0->Bj p1->∃r,wZ p0 p1 p2=some r/\BJ r.1/\r.2.1.length<=8/\FC r.2.1/\r.2.2.length<=1) /\
  (∀(p0:Aa) (p1:AL),BJ p0->Bj p1->∃r,yE p0 p1=some r/\BJ r.1/\r.2.1.length<=8/\FC r.2.1/\r.2.2.length<=1) /\
  (∀(p0:Aa) (p1:AL),BJ p0->Bj p1->∃r,Z9 p0 p1=some r/\BJ r.1/\r.2.1.length<=8/\FC r.2.1/\r.2.2.length<=1):=by
 refine⟨fun p0 h0 h1=>BD (fun(p:dW)=>match p with | .b0 a0=>a0.length<=37/\Hm a0 | .b1 a0 a1 a2=>a0.length<=37/\(Hm a0)/\0<=a2/\a2<=(a0.length:Int)/\CB a1) (fun(p:dW)=>match p with | .b0 ..=>(1,0,0) | .b1 a0 _ a2=>(0,((a0.length:Int) - a2).toNat,0)) ?_ _ ?_,
  fun p0 h0=>BD (fun(p:Xy)=>match p with | .b0 a0=>a0.length<=37 | .b1 a0 a1 a2=>a0.length<=37/\a1.length<=37/\0<=a2/\a2<=(a0.length:Int)/\(a1.length:Int)=a2) (fun(p:Xy)=>match p with | .b0 ..=>(1,0,0) | .b1 a0 _ a2=>(0,((a0.length:Int) - a2).toNat,0)) ?_ _ ?_,
  fun p0 p1 h0 h1 h2=>BD (fun(p:WW)=>match p with | .b0 a0 a1=>0<=a1/\a1+9<=(a0.length:Int)/\a0.length<=1000000) (fun(p:WW)=>(0,0,0)) ?_ _ ?_,
  fun p0 p1 h0 h1=>BD (fun(p:Yq)=>match p with | .b0 a0 a1=>BJ a0/\Bj a1 | .b1 a0 a1 _=>BJ a0/\Bj a1 | .b2 a0 a1 _=>BJ a0/\Bj a1 | .b3 a0 _=>BJ a0) (fun(p:Yq)=>match p with | .b0 ..=>(0,0,3) | .b1 ..=>(0,0,2) | .b2 ..=>(0,0,1) | .b3 ..=>(0,0,0)) ?_ _ ?_,
  fun p0 p1 p2 h0 h1=>BD (fun(p:WR)=>match p with | .b0 a0 a1 _=>BJ a0/\Bj a1 | .b1 _ a1 a2 _=>BJ a1/\Bj a2 | .b2 _ a1 a2 _=>BJ a1/\Bj a2 | .b3 a0 a1 _=>BJ a0/\Bj a1 | .b4 _ a1 a2 _=>BJ a1/\Bj a2 | .b5 a0 _=>BJ a0 | .b6 a0 _=>BJ a0 | .b7 _ a1 a2 _=>BJ a1/\Bj a2 | .b8 _ a1 _=>BJ a1) (fun(p:WR)=>match p with | .b0 ..=>(0,0,4) | .b2 ..=>(0,0,3) | .b3 ..=>(0,0,1) | .b4 ..=>(0,0,2) | .b7 ..=>(0,0,1)|_=>(0,0,0)) ?_ _ ?_,
  fun p0 p1 h0 h1=>BD (fun(p:WC)=>match p with | .b0 a0 a1=>BJ a0/\Bj a1 | .b1 a0 _=>BJ a0 | .b2 a0 a1 _=>BJ a0/\Bj a1 | .b3 a0 a1 _=>BJ a0/\Bj a1) (fun(p:WC)=>match p with | .b0 ..=>(0,0,2) | .b2 ..=>(0,0,1)|_=>(0,0,0)) ?_ _ ?_,
  fun p0 p1 p2 h0 h1=>BD (fun(p:WH)=>match p with | .b0 a0 a1 _=>BJ a0/\Bj a1) (fun(p:WH)=>(0,0,0)) ?_ _ ?_,
  fun p0 p1 h0 h1=>BD (fun(p:WG)=>match p with | .b0 a0 a1=>BJ a0/\Bj a1 | .b1 a0 _=>BJ a0 | .b2 a0 a1 _=>BJ a0/\Bj a1) (fun(p:WG)=>match p with | .b0 ..=>(0,0,1)|_=>(0,0,0)) ?_ _ ?_,
  fun p0 p1 h0 h1=>BD (fun(p:WY)=>match p with | .b0 a0 a1=>BJ a0/\Bj a1 | .b1 a0 a1 _=>BJ a0/\Bj a1 | .b2 a0 a1 _=>BJ a0/\Bj a1 | .b3 a0 _=>BJ a0 | .b4 a0 _=>BJ a0) (fun(p:WY)=>match p with | .b0 ..=>(0,0,2) | .b2 ..=>(0,0,1)|_=>(0,0,0)) ?_ _ ?_⟩
 all_goals try (intro p hp;cases p)
 all_goals
  try dsimp only at hp
  try exact False.elim hp
  try have hx:=hp
  try dsimp only [BQ,DT,BJ,DX,CO,Ei,Es,EP] at hx
  try (repeat with_reducible (have hq:=And.left hp;replace hp:=And.right hp))
  try simp only [Zdu,Zal,Z6F,ZbE,Z6r,Z61,Z5V,Z5X,Z6J]
  try dsimp only
  repeat' first|(refine ET ?_;dsimp only;try simp(disch:=omega) only [Bv,Bh,List.nil_append,List.drop_zero])|(refine Ec (fun h=>?_) (fun h=>?_)<;>(try simp only [Ff,reduceCtorEq] at h;try simp(disch:=omega) only [Bv] at h))|refine Dn ?_ ?_|refine Gm ?_|refine Aq (Z1r _ ?_ ?_) fun(v:Int) hm hv=>?_|refine ZeR ?_ fun v hv=>?_|refine Aq (Z0Y _) fun(v:Int) hm hv=>?_|refine Z3x ?_ fun v hv=>?_|refine Aq (Z2D _ _ _ ?_ ?_ ?_ ?_ ?_) fun(v:Int) hm hv=>?_|refine Aq (Z9O _) fun(v:Bool) hm hv=>?_|refine Aq (Zvx _ _) fun(v:(List Am)) hm hv=>?_|refine Aq (Z2j _) fun(v:(List AL)) hm hv=>?_|with_reducible apply And.intro|rfl|assumption|exact True.intro|omega|exact decide_eq_true (GK _).1|exact GH (by assumption) (by omega)|exact Gl (by assumption) (by omega)|(refine FW.2 ?_;first|omega|grind)|(apply Fz;first|omega|(simp only [Bh];omega))|(simp only [Dx,Bh,Cf,maxLen_eq,kL,kA]<;>omega)|(simp(disch:=omega) only [Bv,decide_eq_true_eq,bne_iff_ne,ne_eq];(repeat' split)<;>omega)|(simp [D6,Ez];done)|grind|(simp only [Dx,Bh,Cf,maxLen_eq,kL,kA]<;>grind)|grind [EG]
def ZAv:=PU.1
def Ztp:=PU.2.1
def Z6O:=PU.2.2.1
def ZvG:=PU.2.2.2.1
def ZiI:=PU.2.2.2.2.1
def Zi4:=PU.2.2.2.2.2.1
def ZiB:=PU.2.2.2.2.2.2.1
def Zim:=PU.2.2.2.2.2.2.2.1
def ZjF:=PU.2.2.2.2.2.2.2.2
theorem Zxq:∀(p0:Int),∃r,oL p0=some r/\(∃u,EN p0=some u/\r=Gu u/\D6 u):=by
 refine fun p0=>BD (fun(p:aB)=>match p with | .b0 a0=>a0=p0 | .b1 a0 a1=>D6 a1/\EN p0=some a1/\a0=1+cond a1.BH 9 0 | .b2 a0 a1=>D6 a1/\EN p0=some a1/\a0=1+cond a1.BH 9 0+cond a1.Map 5 0 | .b3 a0 a1=>D6 a1/\EN p0=some a1/\a0=1+cond a1.BH 9 0+cond a1.Map 5 0+cond a1.DD 2 0 | .b4 a0 a1=>D6 a1/\EN p0=some a1/\a0=1+cond a1.BH 9 0+cond a1.Map 5 0+cond a1.DD 2 0/\(a1.Bc||a1.Version||a1.Length)=true | .b5 a0 a1=>D6 a1/\EN p0=some a1/\a0=1+cond a1.BH 9 0+cond a1.Map 5 0+cond a1.DD 2 0+cond (a1.Bc||a1.Version||a1.Length) 1 0 | .b6 a0 a1=>D6 a1/\EN p0=some a1/\a0=1+cond a1.BH 9 0+cond a1.Map 5 0+cond a1.DD 2 0+cond (a1.Bc||a1.Version||a1.Length) 1 0+cond a1.DI 1 0 | .b7 a0 a1=>D6 a1/\EN p0=some a1/\a0=1+cond a1.BH 9 0+cond a1.Map 5 0+cond a1.DD 2 0+cond (a1.Bc||a1.Version||a1.Length) 1 0+cond a1.DI 1 0/\(a1.Bo||a1.CQ)=true | .b8 a0 a1=>D6 a1/\EN p0=some a1/\a0=1+cond a1.BH 9 0+cond a1.Map 5 0+cond a1.DD 2 0+cond (a1.Bc||a1.Version||a1.Length) 1 0+cond a1.DI 1 0+cond (a1.Bo||a1.CQ) 8 0) (fun(p:aB)=>match p with | .b0 ..=>(0,0,8) | .b1 ..=>(0,0,7) | .b2 ..=>(0,0,6) | .b3 ..=>(0,0,5) | .b4 ..=>(0,0,4) | .b5 ..=>(0,0,3) | .b6 ..=>(0,0,2) | .b7 ..=>(0,0,1) | .b8 ..=>(0,0,0)) ?_ _ ?_
 all_goals try (intro p hp;cases p)
 case' b0=>
  dsimp only at hp
  have hx:=hp
  try dsimp only [BQ,DT,BJ,DX,CO,Ei,Es,EP] at hx
  simp only [pJ]
  subst hp
  refine Aq (UI _) (fun(v:Be) hm hv=>?_)
  clear hx
  simp only [D6,Ez,List.mem_cons,List.not_mem_nil,or_false] at hv
  rcases hv with rfl|rfl|rfl|rfl|rfl|rfl|rfl|rfl|rfl|rfl|rfl|rfl|rfl<;>simp only [Gu,cond_true,cond_false,Bool.or_true,Bool.true_or,Bool.or_false,Bool.false_or,Bool.or_self,reduceCtorEq,and_false] at *<;>repeat' first|(refine Ec (fun h=>?_) (fun h=>?_)<;>(try simp only [Ff,reduceCtorEq] at h;try simp(disch:=omega) only [Bv] at h))|(refine ET ?_;dsimp only;exact⟨⟨by simp [D6,Ez],hm,by simp only [Gu,cond_true,cond_false,Bool.or_true,Bool.true_or,Bool.or_false,Bool.false_or,Bool.or_self,reduceCtorEq,and_false] at *<;>omega⟩,FW.2 (by omega)⟩)
 case' b1|b2|b3|b4|b5|b6|b7|b8=>
  dsimp only at hp
  have hx:=hp
  try dsimp only [BQ,DT,BJ,DX,CO,Ei,Es,EP] at hx
  simp only [pJ]
  have hu:=hp.1
  have hf:=hp.2.1
  have ha:=hp.2.2
  clear hp hx
  simp only [D6,Ez,List.mem_cons,List.not_mem_nil,or_false] at hu
  rcases hu with rfl|rfl|rfl|rfl|rfl|rfl|rfl|rfl|rfl|rfl|rfl|rfl|rfl<;>simp only [Gu,cond_true,cond_false,Bool.or_true,Bool.true_or,Bool.or_false,Bool.false_or,Bool.or_self,reduceCtorEq,and_false] at *<;>repeat' first|(refine Ec (fun h=>?_) (fun h=>?_)<;>(try simp only [Ff,reduceCtorEq] at h;try simp(disch:=omega) only [Bv] at h))|(refine ET ?_;dsimp only;(try simp(disch:=omega) only [Bv]);first|exact⟨⟨by simp [D6,Ez],hf,by simp only [Gu,cond_true,cond_false,Bool.or_true,Bool.true_or,Bool.or_false,Bool.false_or,Bool.or_self,reduceCtorEq,and_false] at *<;>first|omega|exact⟨by omega,by first|trivial|rfl⟩⟩,FW.2 (by omega)⟩|exact⟨_,hf,by simp only [Gu,cond_true,cond_false,Bool.or_true,Bool.true_or,Bool.or_false,Bool.false_or,Bool.or_self,reduceCtorEq,and_false] at *<;>omega,by simp [D6,Ez]⟩)
 all_goals
  try dsimp only at hp
  try exact False.elim hp
  try have hx:=hp
  try dsimp only [BQ,DT,BJ,DX,CO,Ei,Es,EP] at hx
  try (repeat with_reducible (have hq:=And.left hp;replace hp:=And.right hp))
  try simp only [pJ]
  try dsimp only
  repeat' first|(refine ET ?_;dsimp only;try simp(disch:=omega) only [Bv,Bh,List.nil_append,List.drop_zero])|(refine Ec (fun h=>?_) (fun h=>?_)<;>(try simp only [Ff,reduceCtorEq] at h;try simp(disch:=omega) only [Bv] at h))|refine Dn ?_ ?_|refine Gm ?_|with_reducible apply And.intro|rfl|assumption|exact True.intro|omega|exact decide_eq_true (GK _).1|exact GH (by assumption) (by omega)|exact Gl (by assumption) (by omega)|(refine FW.2 ?_;first|omega|grind)|(apply Fz;first|omega|(simp only [Bh];omega))|(simp only [Dx,Bh,Cf,maxLen_eq,kL,kA]<;>omega)|(simp(disch:=omega) only [Bv,decide_eq_true_eq,bne_iff_ne,ne_eq];(repeat' split)<;>omega)|(simp [D6,Ez];done)|grind|(simp only [Dx,Bh,Cf,maxLen_eq,kL,kA]<;>grind)|grind [EG]
theorem Zeb:(∀(p0:Int) (p1:List Int),p1.length<=65536->Cc p1->∃r,Z0Z p0 p1=some r/\r.1.length<=65536/\Cc r.1) /\
  (∀(p0:BU) (p1:BM),DT p0->CO p1.BG->∃r,Z2g p0 p1=some r/\DT r.1/\CO r.2.1):=by
 refine⟨fun p0 p1 h0 h1=>BD (fun(p:YB)=>match p with | .b0 _ a1=>a1.length<=65536/\Cc a1) (fun(p:YB)=>(0,0,0)) ?_ _ ?_,
  fun p0 p1 h0 h1=>BD (fun(p:Yx)=>match p with | .b0 a0 a1=>DT a0/\CO a1.BG | .b1 a0 a1 _ _=>DT a0/\CO a1.BG | .b2 _ a1 a2 _ _=>DT a1/\CO a2.BG | .b3 _ a1 a2 _ _=>DT a1/\CO a2.BG/\0<a1.Az.length | .b4 _ a1 a2 _ _=>CO a2.BG/\DT { a1 with Open:=false } | .b5 _ a1 _ _=>DT a1) (fun(p:Yx)=>match p with | .b0 ..=>(0,0,5) | .b1 ..=>(0,0,4) | .b2 ..=>(0,0,1) | .b3 ..=>(0,0,3) | .b4 ..=>(0,0,2) | .b5 ..=>(0,0,0)) ?_ _ ?_⟩
 all_goals try (intro p hp;cases p)
 all_goals
  try dsimp only at hp
  try exact False.elim hp
  try have hx:=hp
  try dsimp only [BQ,DT,BJ,DX,CO,Ei,Es,EP] at hx
  try (repeat with_reducible (have hq:=And.left hp;replace hp:=And.right hp))
  try simp only [ZaK,ZbB]
  try dsimp only
  repeat' first|(refine ET ?_;dsimp only;try simp(disch:=omega) only [Bv,Bh,List.nil_append,List.drop_zero])|(refine Ec (fun h=>?_) (fun h=>?_)<;>(try simp only [Ff,reduceCtorEq] at h;try simp(disch:=omega) only [Bv] at h))|refine Dn ?_ ?_|refine Gm ?_|refine Aq (ZcO _ _ ?_) fun(v:Int) hm hv=>?_|refine Aq (ZbL _) fun(v:(List Int)) hm hv=>?_|refine Aq (mZ _) fun(v:Int) hm hv=>?_|refine Aq (Z7I _) fun(v:Bool) hm hv=>?_|with_reducible apply And.intro|rfl|assumption|exact True.intro|omega|exact decide_eq_true (GK _).1|exact GH (by assumption) (by omega)|exact Gl (by assumption) (by omega)|(refine FW.2 ?_;first|omega|grind)|(apply Fz;first|omega|(simp only [Bh];omega))|(simp only [Dx,Bh,Cf,maxLen_eq,kL,kA]<;>omega)|(simp(disch:=omega) only [Bv,decide_eq_true_eq,bne_iff_ne,ne_eq];(repeat' split)<;>omega)|(simp [D6,Ez];done)|grind|(simp only [Dx,Bh,Cf,maxLen_eq,kL,kA]<;>grind)|grind [EG]
def Ztf:=Zeb.1
def ZvQ:=Zeb.2
theorem Zr5:∀(p0:AL) (p1:List Int),Bj p0->(∃u,EN p0.Kind=some u/\(p1.length:Int)=Gu u/\D6 u)->p1.length<=65536->∃r,Z1w p0 p1=some r/\Bj r:=by
 refine fun p0 p1 h0 h1 h2=>BD (fun(p:Xx)=>match p with | .b0 a0 a1=>Bj a0/\a0.Kind=p0.Kind/\a1=p1 | .b1 a0 a1 a2 _ a4=>Bj a2/\D6 a4/\(a0.length:Int)=Gu a4/\a1=1+cond a4.BH 9 0/\a0.length<=65536 | .b2 a0 a1 a2 _ a4=>Bj a2/\D6 a4/\(a0.length:Int)=Gu a4/\a1=1+cond a4.BH 9 0+cond a4.Map 5 0/\a0.length<=65536 | .b3 a0 a1 a2 _ a4=>Bj a2/\D6 a4/\(a0.length:Int)=Gu a4/\a1=1+cond a4.BH 9 0+cond a4.Map 5 0/\a0.length<=65536 | .b4 a0 a1 a2 _ a4=>Bj a2/\D6 a4/\(a0.length:Int)=Gu a4/\a1=1+cond a4.BH 9 0+cond a4.Map 5 0+cond a4.Bc 1 0/\a0.length<=65536 | .b5 a0 a1 a2 _ a4=>Bj a2/\D6 a4/\(a0.length:Int)=Gu a4/\a1=1+cond a4.BH 9 0+cond a4.Map 5 0+cond a4.Bc 1 0/\a0.length<=65536 | .b6 a0 a1 a2 _ a4=>Bj a2/\D6 a4/\(a0.length:Int)=Gu a4/\a1=1+cond a4.BH 9 0+cond a4.Map 5 0+cond a4.Bc 1 0+cond a4.Bo 8 0/\a0.length<=65536 | .b7 a0 a1 a2 _ a4=>Bj a2/\D6 a4/\(a0.length:Int)=Gu a4/\a1=1+cond a4.BH 9 0+cond a4.Map 5 0+cond a4.Bc 1 0+cond a4.Bo 8 0/\a0.length<=65536 | .b8 a0 a1 a2 _ a4=>Bj a2/\D6 a4/\(a0.length:Int)=Gu a4/\a1=1+cond a4.BH 9 0+cond a4.Map 5 0+cond a4.Bc 1 0+cond a4.Bo 8 0/\a0.length<=65536 | .b9 a0 a1 a2 _ a4=>Bj a2/\D6 a4/\(a0.length:Int)=Gu a4/\a1=1+cond a4.BH 9 0+cond a4.Map 5 0+cond a4.Bc 1 0+cond a4.Bo 8 0/\a0.length<=65536) (fun(p:Xx)=>match p with | .b0 ..=>(0,0,9) | .b1 ..=>(0,0,8) | .b2 ..=>(0,0,7) | .b3 ..=>(0,0,6) | .b4 ..=>(0,0,5) | .b5 ..=>(0,0,4) | .b6 ..=>(0,0,3) | .b7 ..=>(0,0,2) | .b8 ..=>(0,0,1) | .b9 ..=>(0,0,0)) ?_ _ ?_
 all_goals try (intro p hp;cases p)
 case' b0=>
  dsimp only at hp
  have hx:=hp
  try dsimp only [BQ,DT,BJ,DX,CO,Ei,Es,EP] at hx
  simp only [mY]
  obtain⟨hq,hk,rfl⟩:=hp
  obtain⟨u,h1,h2,h3⟩:=h1
  refine NJ (hk▸h1) ?_
  clear hx h1 hk
  simp only [D6,Ez,List.mem_cons,List.not_mem_nil,or_false] at h3
  rcases h3 with rfl|rfl|rfl|rfl|rfl|rfl|rfl|rfl|rfl|rfl|rfl|rfl|rfl<;>simp only [Gu,cond_true,cond_false,Bool.or_true,Bool.true_or,Bool.or_false,Bool.false_or,Bool.or_self,reduceCtorEq,and_false] at *<;>repeat' first|(refine Ec (fun h=>?_) (fun h=>?_)<;>(try simp only [Ff,reduceCtorEq] at h;try simp(disch:=omega) only [Bv] at h))|(refine Aq (Z2D _ _ _ (by omega) (by omega) (by omega) (by omega) (by omega)) (fun(v:Int) hm hv=>?_))|(refine Q7 ?_ (fun v hv=>?_))|(refine Aq (Z6O _ _ (by omega) (by omega) (by omega)) (fun(v:DL) hm hv=>?_))|(refine ET ?_;dsimp only;(try simp(disch:=omega) only [Bv]);first|exact⟨⟨by grind,by simp [D6,Ez],by first|omega|(simp only [Gu,cond_true,cond_false,Bool.or_true,Bool.true_or,Bool.or_false,Bool.false_or,Bool.or_self,reduceCtorEq,and_false] at *<;>omega),by first|omega|(simp only [Gu,cond_true,cond_false,Bool.or_true,Bool.true_or,Bool.or_false,Bool.false_or,Bool.or_self,reduceCtorEq,and_false] at *<;>omega),by omega⟩,FW.2 (by omega)⟩|grind)
 case' b1|b2|b3|b4|b5|b6|b7|b8|b9=>
  dsimp only at hp
  have hx:=hp
  try dsimp only [BQ,DT,BJ,DX,CO,Ei,Es,EP] at hx
  simp only [mY]
  have hc:=hp.1
  have hu:=hp.2.1
  have hl:=hp.2.2.1
  have ha:=hp.2.2.2.1
  have hs:=hp.2.2.2.2
  clear hp hx
  simp only [D6,Ez,List.mem_cons,List.not_mem_nil,or_false] at hu
  rcases hu with rfl|rfl|rfl|rfl|rfl|rfl|rfl|rfl|rfl|rfl|rfl|rfl|rfl<;>simp only [Gu,cond_true,cond_false,Bool.or_true,Bool.true_or,Bool.or_false,Bool.false_or,Bool.or_self,reduceCtorEq,and_false] at *<;>repeat' first|(refine Ec (fun h=>?_) (fun h=>?_)<;>(try simp only [Ff,reduceCtorEq] at h;try simp(disch:=omega) only [Bv] at h))|(refine Dn ?_ ?_)|(refine Aq (Z2D _ _ _ (by omega) (by omega) (by omega) (by omega) (by omega)) (fun(v:Int) hm hv=>?_))|(refine Q7 ?_ (fun v hv=>?_))|(refine Aq (Z6O _ _ (by omega) (by omega) (by omega)) (fun(v:DL) hm hv=>?_))|(refine ET ?_;dsimp only;(try simp(disch:=omega) only [Bv]);first|exact⟨⟨by grind,by simp [D6,Ez],by first|omega|(simp only [Gu,cond_true,cond_false,Bool.or_true,Bool.true_or,Bool.or_false,Bool.false_or,Bool.or_self,reduceCtorEq,and_false] at *<;>omega),by first|omega|(simp only [Gu,cond_true,cond_false,Bool.or_true,Bool.true_or,Bool.or_false,Bool.false_or,Bool.or_self,reduceCtorEq,and_false] at *<;>omega),by omega⟩,FW.2 (by omega)⟩|grind)
 all_goals
  try dsimp only at hp
  try exact False.elim hp
  try have hx:=hp
  try dsimp only [BQ,DT,BJ,DX,CO,Ei,Es,EP] at hx
  try (repeat with_reducible (have hq:=And.left hp;replace hp:=And.right hp))
  try simp only [mY]
  try dsimp only
  repeat' first|(refine ET ?_;dsimp only;try simp(disch:=omega) only [Bv,Bh,List.nil_append,List.drop_zero])|(refine Ec (fun h=>?_) (fun h=>?_)<;>(try simp only [Ff,reduceCtorEq] at h;try simp(disch:=omega) only [Bv] at h))|refine Dn ?_ ?_|refine Gm ?_|with_reducible apply And.intro|rfl|assumption|exact True.intro|omega|exact decide_eq_true (GK _).1|exact GH (by assumption) (by omega)|exact Gl (by assumption) (by omega)|(refine FW.2 ?_;first|omega|grind)|(apply Fz;first|omega|(simp only [Bh];omega))|(simp only [Dx,Bh,Cf,maxLen_eq,kL,kA]<;>omega)|(simp(disch:=omega) only [Bv,decide_eq_true_eq,bne_iff_ne,ne_eq];(repeat' split)<;>omega)|(simp [D6,Ez];done)|grind|(simp only [Dx,Bh,Cf,maxLen_eq,kL,kA]<;>grind)|grind [EG]
theorem OG:(∀(p0:Int),∃r,UR p0=some r/\0<=r/\r<=37) /\
  (∀(p0 p1:Int),∃r,dI p0 p1=some r/\True) /\
  (∀(k:Int) (p0:A8),BQ k p0->0<=k->k<=1000000->∃r,nX p0=some r/\BQ k r) /\
  (∀(p0 p1 p2:Int),0<=p2->p2<=100000->∃r,XU p0 p1 p2=some r/\(r.length:Int)=p2/\Cc r) /\
  (∀(p0:Int) (p1:List Int),p1.length<=1000000->∃r,bH p0 p1=some r/\CB r) /\
  (∀(p0:Aa) (p1:Int),BJ p0->∃r,Z2R p0 p1=some r/\BJ r.1/\r.2.length<=1/\FT r.2) /\
  (∀(p0:List BN) (p1:Int) (p2:BN),(p0.length<=1/\FT p0)->Kq p2->∃r,pW p0 p1 p2=some r/\r.1.length<=1/\FT r.1) /\
  (∀(k:Int) (p0:A8) (p1:Aw),BQ k p0->CO p1->0<=k->k<=1000000->∃r,Z1B p0 p1=some r/\BQ k r.1) /\
  (∀(p0:List BR) (p1:List Int),p0.length<=37->p1.length<=37->∃r,Z1n p0 p1=some r/\r<(p1.length:Int)) /\
  (∀(p0:List Int),p0.length<=65536->Cc p0->∃r,l9 p0=some r/\(Bj r.1/\(r.2=0->CV r.1)/\(r.2=12->1<=p0.length))):=by
 refine⟨fun p0=>BD (fun(p:YH)=>True) (fun(p:YH)=>(0,0,0)) ?_ _ ?_,
  fun p0 p1=>BD (fun(p:dM)=>match p with | .b0 ..=>True | .b1 a0 a1=>0<=a0/\a0<(a1.length:Int)) (fun(p:dM)=>match p with | .b0 ..=>(0,0,1) | .b1 ..=>(0,0,0)) ?_ _ ?_,
  fun k p0 h0 h1 h2=>BD (fun(p:Xt)=>match p with | .b0 a0=>BQ k a0 | .b1 a0 _ a2 a3 _=>FC a0/\BQ k a3/\0<=a2/\a2<=(a3.BA.length:Int)/\(a0.length:Int)<=a2 | .b2 a0 _ a2 a3 _ a5=>FC a0/\BQ k a3/\CV a5/\0<=a2/\a2<(a3.BA.length:Int)/\(a0.length:Int)<=a2 | .b3 a0 _ a2 a3 _ a5=>FC a0/\BQ k a3/\CV a5/\0<=a2/\a2<(a3.BA.length:Int)/\(a0.length:Int)<=a2 | .b4 a0 _ a2 a3 _=>FC a0/\BQ k a3/\0<=a2/\a2<(a3.BA.length:Int)/\(a0.length:Int)<=a2+1) (fun(p:Xt)=>match p with | .b0 ..=>(1,0,0) | .b1 _ _ a2 a3 _=>(0,((a3.BA.length:Int) - a2).toNat,2) | .b2 _ _ a2 a3 _ _=>(0,((a3.BA.length:Int) - a2).toNat,1) | .b3 _ _ a2 a3 _ _=>(0,((a3.BA.length:Int) - a2).toNat,1) | .b4 _ _ a2 a3 _=>(0,((a3.BA.length:Int) - a2).toNat,0)) ?_ _ ?_,
  fun p0 p1 p2 h0 h1=>BD (fun(p:XT)=>match p with | .b0 _ _ a2=>a2=p2/\0<=a2/\a2<=100000 | .b1 _ a1 a2 _ a4=>a1=p2/\0<=a1/\a1<=100000/\0<=a4/\(a2.length:Int)=8*a4/\8*a4<=a1+8/\Cc a2) (fun(p:XT)=>match p with | .b0 ..=>(1,0,0) | .b1 _ a1 _ _ a4=>(0,(a1+8 - 8*a4).toNat,0)) ?_ _ ?_,
  fun p0 p1 h0=>BD (fun(p:dE)=>match p with | .b0 _ a1=>a1.length<=1000000 | .b1 _ a1 a2 a3=>0<=a3/\a3<=(a1.length:Int)+8/\a1.length<=1000000/\CB a2) (fun(p:dE)=>match p with | .b0 ..=>(1,0,0) | .b1 _ a1 _ a3=>(0,((a1.length:Int)+8 - a3).toNat,0)) ?_ _ ?_,
  fun p0 p1 h0=>BD (fun(p:aZ)=>match p with | .b0 a0 _=>BJ a0 | .b1 a0 _=>BJ a0 | .b2 a0 a1 _=>a0.length<=1/\FT a0/\BJ a1 | .b3 a0 a1 a2 _=>a0.length<=1/\FT a0/\BJ a2/\0<=a1/\a1<=(a0.length:Int) | .b4 a0 a1 a2 _=>a0.length<=1/\FT a0/\BJ a2/\0<=a1/\a1<(a0.length:Int) | .b5 a0 a1 a2 _=>a0.length<=1/\FT a0/\BJ a2/\0<=a1/\a1<(a0.length:Int)) (fun(p:aZ)=>match p with | .b0 ..=>(2,0,0) | .b1 ..=>(1,0,0) | .b2 ..=>(1,0,1) | .b3 a0 a1 _ _=>(0,((a0.length:Int) - a1).toNat,3) | .b4 a0 a1 _ _=>(0,((a0.length:Int) - a1).toNat,2) | .b5 a0 a1 _ _=>(0,((a0.length:Int) - a1).toNat,1)) ?_ _ ?_,
  fun p0 p1 p2 h0 h1=>BD (fun(p:bQ)=>match p with | .b0 a0 _ a2=>a0.length<=1/\FT a0/\Kq a2) (fun(p:bQ)=>(0,0,0)) ?_ _ ?_,
  fun k p0 p1 h0 h1 h2 h3=>BD (fun(p:Yn)=>match p with | .b0 a0 a1=>BQ k a0/\CO a1 | .b1 a0 a1 _=>BQ k a0/\CO a1) (fun(p:Yn)=>match p with | .b0 ..=>(0,0,1) | .b1 ..=>(0,0,0)) ?_ _ ?_,
  fun p0 p1 h0 h1=>BD (fun(p:Y5)=>match p with | .b0 a0 a1=>a0.length<=37/\a1=p1/\a1.length<=37 | .b1 a0 a1 a2 a3=>a0.length<=37/\a1=p1/\a1.length<=37/\a2<(a1.length:Int)/\0<=a3/\a3<=(a1.length:Int) | .b2 a0 a1 a2 a3=>a0.length<=37/\a1=p1/\a1.length<=37/\a2<(a1.length:Int)/\0<=a3/\a3<(a1.length:Int) | .b3 a0 a1 a2=>a0.length<=37/\a1=p1/\a1.length<=37/\a2<(a1.length:Int)/\0<=a2) (fun(p:Y5)=>match p with | .b0 ..=>(1,0,0) | .b1 _ a1 _ a3=>(0,((a1.length:Int) - a3).toNat,2) | .b2 _ a1 _ a3=>(0,((a1.length:Int) - a3).toNat,0) | .b3 _ a1 a2=>(0,((a1.length:Int) - a2).toNat,1)) ?_ _ ?_,
  fun p0 h0 h1=>BD (fun(p:Xe)=>match p with | .b0 a0=>a0=p0/\a0.length<=65536/\Cc a0) (fun(p:Xe)=>(0,0,0)) ?_ _ ?_⟩
 all_goals try (intro p hp;cases p)
 all_goals
  try dsimp only at hp
  try exact False.elim hp
  try have hx:=hp
  try dsimp only [BQ,DT,BJ,DX,CO,Ei,Es,EP] at hx
  try (repeat with_reducible (have hq:=And.left hp;replace hp:=And.right hp))
  try simp only [Z14,qA,Jw,UJ,Uc,Zcc,Zcn,Zc0,Za8,Z9z]
  try dsimp only
  repeat' first|(refine ET ?_;dsimp only;try simp(disch:=omega) only [Bv,Bh,List.nil_append,List.drop_zero])|(refine Ec (fun h=>?_) (fun h=>?_)<;>(try simp only [Ff,reduceCtorEq] at h;try simp(disch:=omega) only [Bv] at h))|refine Dn ?_ ?_|refine Gm ?_|refine Aq (ZbU _) fun(v:(List Int)) hm hv=>?_|refine ZeR ?_ fun v hv=>?_|refine Aq (Zu2 _ ?_) fun(v:Bool) hm hv=>?_|refine Aq (Znc _) fun(v:Bool) hm hv=>?_|refine Z2W ?_ fun v hv=>?_|refine Aq (Zq3 _ ?_) fun(v:((List Int)×Int)) hm hv=>?_|refine Aq (Zr8 _ _ ?_ ?_) fun(v:(BU×Int)) hm hv=>?_|refine Aq (Zy3 _ _) fun(v:Int) hm hv=>?_|refine Aq (Z2L _ _ ?_ ?_) fun(v:KN) hm hv=>?_|refine Aq (Zsp _ ?_) fun(v:Int) hm hv=>?_|refine Aq (ZyG _ _ ?_) fun(v:((List BN)×(List BN))) hm hv=>?_|refine Z3a ?_ fun v hv=>?_|refine Aq (Zt5 _ _ ?_) fun(v:Int) hm hv=>?_|refine Aq (mZ _) fun(v:Int) hm hv=>?_|refine Aq (ZBf _ _ ?_) fun(v:BR) hm hv=>?_|refine Aq (Zyk _) fun(v:Bool) hm hv=>?_|refine Aq (ZbP _) fun(v:Int) hm hv=>?_|refine Aq (UI _) fun(v:Be) hm hv=>?_|refine Aq (Zxq _) fun(v:Int) hm hv=>?_|refine Aq (Zr5 _ _ ?_ ?_ ?_) fun(v:AL) hm hv=>?_|refine Aq (Z0W _ ?_) fun(v:Int) hm hv=>?_|refine Q7 ?_ fun v hv=>?_|(exact ZAn (by assumption) (by assumption))|with_reducible apply And.intro|rfl|assumption|exact True.intro|omega|exact decide_eq_true (GK _).1|exact GH (by assumption) (by omega)|exact Gl (by assumption) (by omega)|(refine FW.2 ?_;first|omega|grind)|(apply Fz;first|omega|(simp only [Bh];omega))|(simp only [Dx,Bh,Cf,maxLen_eq,kL,kA]<;>omega)|(simp(disch:=omega) only [Bv,decide_eq_true_eq,bne_iff_ne,ne_eq];(repeat' split)<;>omega)|(simp [D6,Ez];done)|grind|(simp only [Dx,Bh,Cf,maxLen_eq,kL,kA]<;>grind)|grind [EG]
def Zrw:=OG.1
def Zyy:=OG.2.1
def Zar:=OG.2.2.1
def Zpo:=OG.2.2.2.1
def Zyv:=OG.2.2.2.2.1
def Zy8:=OG.2.2.2.2.2.1
def Zy2:=OG.2.2.2.2.2.2.1
def Zwo:=OG.2.2.2.2.2.2.2.1
def Zso:=OG.2.2.2.2.2.2.2.2.1
def Z93:=OG.2.2.2.2.2.2.2.2.2
end Go.Proofs.YtjodhcdmhobmoaaGreatDoor
