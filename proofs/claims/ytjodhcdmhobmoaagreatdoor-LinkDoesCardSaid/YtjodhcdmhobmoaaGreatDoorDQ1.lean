/- A part of it. -/
import Derived.Test.YtjodhcdmhobmoaaGreatDoorDUn
import Derived.Laws.BitsAllLaws
import Derived.Test.YtjodhcdmhobmoaaGreatDoorDF3
import Derived.Laws.Bits128
set_option linter.unusedVariables false
set_option linter.unusedSimpArgs false
namespace Go.Proofs.YtjodhcdmhobmoaaGreatDoor
open Go Go.Proofs.YtjodhcdmhobmoaaGreatDoor.Le
def Tot {U:Cc} {L:Type}:Tr U L->(L->Prop)->Prop
 | .leaf l,Q=>Q l
 | .br c a b,Q=>(c=true->Tot a Q)/\(c=false->Tot b Q)
 | .bind _ o k,Q=>∃x,o=some x/\Tot (k x) Q
 | .chk c a,Q=>c=true/\Tot a Q
 | .fail,_=>False
theorem ZBR {U:Cc} {L R:Type} {J:L->Option R} {post:R->Prop}:∀{t:Tr U L},Tot t (fun l=>∃r,J l=some r/\post r)->∃r,t.den J=some r/\post r:=by
 intro t;induction t with
 | leaf l=>intro h;exact h
 | br c a b C D=>
  intro h;cases c with
  | true=>exact C (h.1 rfl)
  | false=>exact D (h.2 rfl)
 | bind t o k A=>
  intro h;obtain⟨x,F,h⟩:=h;obtain⟨r,q,z⟩:=A x h;exact⟨r,by rw[Tr.den,F];exact q,z⟩
 | chk c a A=>
  intro h;obtain⟨r,q,z⟩:=A h.2;exact⟨r,by rw[Tr.den,h.1];exact q,z⟩
 | fail=>intro h;exact h.elim
theorem Tot.mono {U:Cc} {L:Type} {Q Q' : L->Prop} (C:∀l,Q l->Q' l):∀{t:Tr U L},Tot t Q->Tot t Q' :=by
 intro t;induction t with
 | leaf l=>exact C l
 | br c a b z A=>exact fun h=>⟨fun e=>z (h.1 e),fun e=>A (h.2 e)⟩
 | bind t o k q=>exact fun⟨x,D,h⟩=>⟨x,D,q x h⟩
 | chk c a q=>exact fun h=>⟨h.1,q h.2⟩
 | fail=>exact fun h=>h
def Lt3 (a b:Nat×Nat×Nat):Prop:=a.1<b.1\/(a.1=b.1/\(a.2.1<b.2.1\/(a.2.1=b.2.1/\a.2.2<b.2.2)))
theorem lt3_wf:WellFounded Lt3:=by
 have key:∀x y z,Acc Lt3 (x,y,z):=by
  intro x;induction x using Nat.strongRecOn with
  | _ x C=>
   intro y;induction y using Nat.strongRecOn with
   | _ y D=>
    intro z;induction z using Nat.strongRecOn with
    | _ z F=>
     refine Acc.intro _ fun q I=>?_;obtain⟨q1,q2,q3⟩:=q;rcases I with h|⟨A,h|⟨G,h⟩⟩
     ·exact C q1 h q2 q3
     ·simp only at A h;subst A;exact D q2 h q3
     ·simp only at A G h;subst A;subst G;exact F q3 h
 exact⟨fun⟨x,y,z⟩=>key x y z⟩
theorem Zem {a b c d e f:Nat} (h:a<d):Lt3 (a,b,c) (d,e,f):=.inl h
theorem ZeE {a b c e f:Nat} (h:b<e):Lt3 (a,b,c) (a,e,f):=.inr ⟨rfl,.inl h⟩
theorem FY {a b c d e f:Nat}:Lt3 (a,b,c) (d,e,f)↔a<d\/(a=d/\(b<e\/(b=e/\c<f))):=Iff.rfl
theorem BK {U:Cc} {P R:Type} {T:P->Tr U (R⊕P)} {post:R->Prop} (I:P->Prop) (A:P->Nat×Nat×Nat)
  (h:∀p,I p->Tot (T p) (fun l=>match l with | .inl r=>post r | .inr q=>I q/\Lt3 (A q) (A p))) (p:P) (D:I p):∃r,AY T p=some r/\post r:=by
 have key:∀x p,A p=x->I p->∃r,AY T p=some r/\post r:=by
  intro x;induction lt3_wf.apply x with
  | intro x _ G=>
   intro p F C;subst F;rw[BA];refine ZBR ((h p C).mono fun l z=>?_);cases l with
   | inl r=>exact⟨r,rfl,z⟩
   | inr q=>exact G _ z.2 q rfl z.1
 exact key _ p rfl D
theorem ZDu {α:Type} {l:List α} {i:Int} {Q:α->Prop} (h:0<=i/\i<(l.length:Int)) (k:∀v,v∈l->Q v):∃v,l[Int.toNat i]? = some v/\Q v:=by
 have q:i.toNat<l.length:=by omega
 exact⟨l[i.toNat],List.getElem?_eq_getElem q,k _ (List.getElem_mem q)⟩
theorem Bo {a:Int} (h : -9223372036854775808<=a) (q : a<=9223372036854775807):AV a=a:=by
 simp only[AV,IntKind.wrap,IntKind.signed,IntKind.bits];simp;omega
theorem tm_bd (a:Int) (n:Nat) (h:0<n) : -(n:Int)<Int.tmod a n/\Int.tmod a n<n:=by
 have z:=Int.tmod_lt_of_pos a (show (0:Int)<n by omega);have q:=Int.tmod_lt_of_pos (-a) (show (0:Int)<n by omega);rw[Int.neg_tmod]at q;omega
theorem Gl {U:Cc} {L:Type} {Q:L->Prop} (h:False):Tot (.fail:Tr U L) Q:=h
theorem Ea {U:Cc} {L:Type} {l:L} {Q:L->Prop} (h:Q l):Tot (.leaf l:Tr U L) Q:=h
theorem FM {U:Cc} {L:Type} {c:Bool} {a b:Tr U L} {Q:L->Prop} (h:c=true->Tot a Q) (k:c=false->Tot b Q):Tot (.br c a b) Q:=⟨h,k⟩
theorem Dl {U:Cc} {L:Type} {c:Bool} {a:Tr U L} {Q:L->Prop} (h:c=true) (k:Tot a Q):Tot (.chk c a) Q:=⟨h,k⟩
theorem Az {U:Cc} {L:Type} {t:Nat} {o:Option (U.Ty t)} {k:U.Ty t->Tr U L} {Q:L->Prop} {post:U.Ty t->Prop} (h:∃v,o=some v/\post v) (g:∀v,o=some v->post v->Tot (k v) Q):Tot (.bind t o k) Q:=by
 obtain⟨v,q,z⟩:=h;exact⟨v,q,g v q z⟩
theorem OE {U:Cc} {L:Type} {t:Nat} {l:List (U.Ty t)} {i:Int} {k:U.Ty t->Tr U L} {Q:L->Prop} (h:0<=i/\i<(l.length:Int)) (g:∀v,v∈l->Tot (k v) Q):Tot (.bind t (l[Int.toNat i]?) k) Q:=
 ZDu h g
theorem dV {U:Cc} {L:Type} {t:Nat} {o:Option (U.Ty t)} {a:U.Ty t} {k:U.Ty t->Tr U L} {Q:L->Prop} (h:o=some a) (g:Tot (k a) Q):Tot (.bind t o k) Q:=⟨a,h,g⟩
theorem Cb:lim=140737488355328:=rfl
theorem maxLen_eq:maxLen=9223372036854775807:=rfl
end Go.Proofs.YtjodhcdmhobmoaaGreatDoor
namespace Go.Proofs.YtjodhcdmhobmoaaGreatDoor.Na
open Go
def rep (c:Nat):Nat->Nat
 | 0=>0
 | k+1=>256*rep c k+c
theorem dX (x s c k:Nat) (C:s<=8) (hc:c<2 ^ (8 - s)):(x / 2 ^ s) &&& rep c (k+1)=256*((x / 256 / 2 ^ s) &&& rep c k)+((x % 256 / 2 ^ s) &&& c):=by
 have q:c<2 ^ 8:=Nat.lt_of_lt_of_le hc (Nat.pow_le_pow_right (by omega) (by omega));have hb:((x % 256 / 2 ^ s) &&& c)<2 ^ 8:=Nat.lt_of_le_of_lt Nat.and_le_right q;refine Nat.eq_of_testBit_eq fun j=>?_;rw[show (256:Nat)=2 ^ 8 from rfl]at *;rw[Nat.testBit_two_pow_mul_add _ hb];simp only[rep];rw[show (256:Nat)=2 ^ 8 from rfl,Nat.testBit_and,Nat.testBit_two_pow_mul_add _ q];split
 ·rename_i A;rw[Nat.testBit_and,Nat.testBit_div_two_pow,Nat.testBit_div_two_pow,Nat.testBit_mod_two_pow]
  by_cases h:c.testBit j=true
  ·have:j<8 - s:=by
    refine Nat.lt_of_not_le fun z=>?_;rw[Nat.testBit_lt_two_pow (Nat.lt_of_lt_of_le hc (Nat.pow_le_pow_right (by omega) z))]at h;cases h
   rw[h,show decide (j+s<8)=true by simp;omega];simp
  ·simp[h]
 ·rename_i A;rw[Nat.testBit_and,Nat.testBit_div_two_pow,Nat.testBit_div_two_pow,Nat.testBit_div_two_pow];rw[show j - 8+s+8=j+s by omega]
def s1 (k x:Nat):Nat:=(x / 2 &&& rep 0x55 k)+(x &&& rep 0x55 k)
def s2 (k x:Nat):Nat:=(x / 4 &&& rep 0x33 k)+(x &&& rep 0x33 k)
def s3 (k x:Nat):Nat:=(x / 16+x) &&& rep 0x0f k
theorem Z3t (k x:Nat):s1 (k+1) x=256*s1 k (x / 256)+s1 1 (x % 256):=by
 have q:=dX x 1 0x55 k (by omega) (by decide);have z:=dX x 0 0x55 k (by omega) (by decide);simp only[Nat.pow_zero,Nat.div_one,Nat.pow_one]at q z;simp only[s1];rw[q,z,show rep 0x55 1=0x55 from rfl];omega
theorem Zdi (k h a:Nat) (D:a<256):s2 (k+1) (256*h+a)=256*s2 k h+s2 1 a:=by
 have q:=dX (256*h+a) 2 0x33 k (by omega) (by decide);have z:=dX (256*h+a) 0 0x33 k (by omega) (by decide);have A:(256*h+a) / 256=h:=by omega
 have C:(256*h+a) % 256=a:=by omega
 rw[A,C]at q z;simp only[Nat.pow_zero,Nat.div_one,show 2 ^ 2=4 from rfl]at q z;simp only[s2];rw[q,z,show rep 0x33 1=0x33 from rfl];omega
theorem ZAM (k h a:Nat) (F:a % 16<=4) (D : a / 16<=4) (G:h % 16<=4):s3 (k+1) (256*h+a)=256*s3 k h+s3 1 a:=by
 have q:=dX ((256*h+a) / 16+(256*h+a)) 0 0x0f k (by omega) (by decide);simp only[Nat.pow_zero,Nat.div_one]at q;have z:((256*h+a) / 16+(256*h+a)) / 256=h / 16+h:=by omega
 have A:((256*h+a) / 16+(256*h+a)) % 256=(h % 16)*16+(a / 16+a):=by omega
 have C:((h % 16)*16+(a / 16+a)) &&& 15=(a / 16+a) &&& 15:=by
  rw[Nat.and_two_pow_sub_one_eq_mod _ 4,Nat.and_two_pow_sub_one_eq_mod _ 4];omega
 simp only[s3];rw[q,z,A,C,show rep 0x0f 1=0x0f from rfl]
theorem Z4c:∀a<256,s1 1 a<256:=by decide +kernel
theorem Zek:∀a<256,s2 1 (s1 1 a) % 16<=4/\s2 1 (s1 1 a) / 16<=4/\s2 1 (s1 1 a)<256:=by decide +kernel
def bc:Nat->Nat->Nat
 | 0,_=>0
 | k+1,x=>bc k x+x / 2 ^ k % 2
theorem f3_eq:∀a<256,s3 1 (s2 1 (s1 1 a))=bc 8 a:=by decide +kernel
theorem Iw (k x:Nat):bc k x<=k:=by
 induction k with
 | zero=>simp[bc]
 | succ k q=>simp only[bc];omega
theorem eY (a k x:Nat):bc (a+k) x=bc a x+bc k (x / 2 ^ a):=by
 induction k with
 | zero=>simp[bc]
 | succ k q=>
  show bc (a+k) x+x / 2 ^ (a+k) % 2=_;simp only[bc];rw[q,Nat.pow_add,Nat.div_div_eq_div_mul];omega
theorem Ze9 (a b x:Nat) (h:a<=b):bc a (x % 2 ^ b)=bc a x:=by
 induction a with
 | zero=>rfl
 | succ k q=>
  simp only[bc];rw[q (by omega)];congr 1;have e:∀y,y / 2 ^ k % 2=(y.testBit k).toNat:=fun y=>by rw[Nat.testBit_eq_decide_div_mod_eq];rcases Nat.mod_two_eq_zero_or_one (y / 2 ^ k) with h|h<;>simp[h]
  rw[e,e,Nat.testBit_mod_two_pow];simp[show k<b by omega]
theorem Zdf (k:Nat):bc k 0=0:=by
 induction k with
 | zero=>rfl
 | succ k q=>simp[bc,q]
def pb:Nat->Nat->Nat
 | 0,_=>0
 | k+1,x=>256*pb k (x / 256)+bc 8 (x % 256)
theorem swar (k x:Nat):s3 k (s2 k (s1 k x))=pb k x/\s2 k (s1 k x) % 16<=4:=by
 induction k generalizing x with
 | zero=>simp[s1,s2,s3,rep,pb]
 | succ k C=>
  have q:x % 256<256:=Nat.mod_lt _ (by omega);obtain⟨z,A⟩:=C (x / 256);obtain⟨b1,b2,b3⟩:=Zek _ q;rw[Z3t,Zdi _ _ _ (Z4c _ q),ZAM _ _ _ b1 b2 A,z,f3_eq _ q];exact⟨rfl,by omega⟩
theorem dv (B A b:Nat) (hb:b<B):(b+B*A) / B=A:=by
 rw[Nat.add_mul_div_left _ _ (by omega),Nat.div_eq_of_lt hb];omega
theorem sum8e (I G F D C A z q:Nat) :
  256*(256*(256*(256*(256*(256*(256*(256*0+q)+z)+A)+C)+D)+F)+G)+I=I+256*(256*(256*(256*(256*(256*(256*q+z)+A)+C)+D)+F)+G) /\
  (I+256*(256*(256*(256*(256*(256*(256*q+z)+A)+C)+D)+F)+G))+(256*(256*(256*(256*(256*(256*q+z)+A)+C)+D)+F)+G)=((I+G)+256*(G+F))+65536*((F+D)+256*(D+C)+65536*(C+A)+16777216*(A+z)+4294967296*(z+q)+1099511627776*q) /\
  (((I+G)+256*(G+F))+65536*((F+D)+256*(D+C)+65536*(C+A)+16777216*(A+z)+4294967296*(z+q)+1099511627776*q))+((F+D)+256*(D+C)+65536*(C+A)+16777216*(A+z)+4294967296*(z+q)+1099511627776*q)=((I+G+F+D)+256*(G+F+D+C)+65536*(F+D+C+A)+16777216*(D+C+A+z))+4294967296*((C+A+z+q)+256*(A+z+q)+65536*(z+q)+16777216*q) /\
  (((I+G+F+D)+256*(G+F+D+C)+65536*(F+D+C+A)+16777216*(D+C+A+z))+4294967296*((C+A+z+q)+256*(A+z+q)+65536*(z+q)+16777216*q))+((C+A+z+q)+256*(A+z+q)+65536*(z+q)+16777216*q)=(I+G+F+D+C+A+z+q)+128*(2*(G+F+D+C+A+z+q)+512*(F+D+C+A+z+q)+131072*(D+C+A+z+q)+33554432*((C+A+z+q)+256*(A+z+q)+65536*(z+q)+16777216*q)):=by
 refine⟨?_,?_,?_,?_⟩<;>omega
theorem sum8 (F G I J M N O Q:Nat) (Y:F<=8) (q:G<=8) (z:I<=8) (A:J<=8) (h4:M<=8) (h5:N<=8) (h6:O<=8) (h7:Q<=8) (w t u v:Nat)
  (hw:w=256*(256*(256*(256*(256*(256*(256*(256*0+Q)+O)+N)+M)+J)+I)+G)+F) (C:t=w+w / 256) (D:u=t+t / 65536) (hv:v=u+u / 4294967296) :
  v % 128=F+G+I+J+M+N+O+Q/\w<=v/\t<=v/\u<=v/\v<18446744073709551616:=by
 obtain⟨q1,q2,q3,q4⟩:=sum8e F G I J M N O Q;rw[q1]at hw;rw[hw,dv 256 _ _ (Nat.lt_of_le_of_lt Y (by decide)),q2]at C;rw[C,dv 65536 _ _ (Nat.lt_of_le_of_lt (Nat.add_le_add (Nat.add_le_add Y q) (Nat.mul_le_mul_left 256 (Nat.add_le_add q z))) (by decide)),q3]at D;rw[D,dv 4294967296 _ _ (Nat.lt_of_le_of_lt (Nat.add_le_add (Nat.add_le_add (Nat.add_le_add (Nat.add_le_add (Nat.add_le_add (Nat.add_le_add Y q) z) A) (Nat.mul_le_mul_left 256 (Nat.add_le_add (Nat.add_le_add (Nat.add_le_add q z) A) h4))) (Nat.mul_le_mul_left 65536 (Nat.add_le_add (Nat.add_le_add (Nat.add_le_add z A) h4) h5))) (Nat.mul_le_mul_left 16777216 (Nat.add_le_add (Nat.add_le_add (Nat.add_le_add A h4) h5) h6))) (by decide)),q4]at hv;have a1:w<=t:=by rw[hw,C,<- q2];exact Nat.le_add_right _ _
 have a2:t<=u:=by rw[C,D,<- q3];exact Nat.le_add_right _ _
 have S:u<=v:=by rw[D,hv,<- q4];exact Nat.le_add_right _ _
 refine⟨?_,Nat.le_trans a1 (Nat.le_trans a2 S),Nat.le_trans a2 S,S,?_⟩
 ·have hs:F+G+I+J+M+N+O+Q<128:=Nat.lt_of_le_of_lt (Nat.add_le_add (Nat.add_le_add (Nat.add_le_add (Nat.add_le_add (Nat.add_le_add (Nat.add_le_add (Nat.add_le_add Y q) z) A) h4) h5) h6) h7) (by decide);rw[hv,Nat.add_mul_mod_self_left,Nat.mod_eq_of_lt hs]
 ·clear a1 a2 S q1 q2 q3 q4 hw C D;omega
def popN (x:Nat):Nat:=
 let w:=s3 8 (s2 8 (s1 8 x));let t:=w+w / 256;let u:=t+t / 65536;let v:=u+u / 4294967296
 v % 128
theorem ZC0 (x:Nat) (C:x<2 ^ 37):popN x=bc 37 x:=by
 have h:=sum8 (bc 8 (x % 256)) (bc 8 (x / 256 % 256)) (bc 8 (x / 256 / 256 % 256)) (bc 8 (x / 256 / 256 / 256 % 256)) (bc 8 (x / 256 / 256 / 256 / 256 % 256)) (bc 8 (x / 256 / 256 / 256 / 256 / 256 % 256)) (bc 8 (x / 256 / 256 / 256 / 256 / 256 / 256 % 256)) (bc 8 (x / 256 / 256 / 256 / 256 / 256 / 256 / 256 % 256))
  (Iw _ _) (Iw _ _) (Iw _ _) (Iw _ _) (Iw _ _) (Iw _ _) (Iw _ _) (Iw _ _) (pb 8 x) _ _ _ rfl rfl rfl rfl
 unfold popN;rw[(swar 8 x).1];refine h.1.trans ?_;have z:∀y,bc 8 (y % 256)=bc 8 y:=fun y=>Ze9 8 8 y (Nat.le_refl 8);simp only[z];have A:x / 256 / 256 / 256 / 256 / 256=0:=by omega
 rw[A];simp only[Nat.zero_div,Zdf,Nat.add_zero];rw[show 37=8+(8+(8+(8+5))) from rfl,eY,eY,eY,eY];have q:bc 8 (x / 256 / 256 / 256 / 256)=bc 5 (x / 256 / 256 / 256 / 256):=by
  rw[show 8=5+3 from rfl,eY,show x / 256 / 256 / 256 / 256 / 2 ^ 5=0 by omega,Zdf];rfl
 rw[q];simp only[show (2:Nat) ^ 8=256 from rfl];omega
theorem s1_lt (k x:Nat):s1 k x<256 ^ k:=by
 induction k generalizing x with
 | zero=>simp[s1,rep]
 | succ k q=>
  have:=Z4c (x % 256) (Nat.mod_lt _ (by omega));have:=q (x / 256);rw[Z3t,Nat.pow_succ];omega
theorem s2_le (k x:Nat):255*s2 k (s1 k x)+68<=68*256 ^ k:=by
 induction k generalizing x with
 | zero=>simp[s2,rep]
 | succ k z=>
  have q:x % 256<256:=Nat.mod_lt _ (by omega);obtain⟨b1,b2,b3⟩:=Zek (x % 256) q;have:=z (x / 256);rw[Z3t,Zdi _ _ _ (Z4c _ q),Nat.pow_succ];omega
theorem ZCy (x:Nat):let w:=s3 8 (s2 8 (s1 8 x))
  let t:=w+w / 256;let u:=t+t / 65536
  s1 8 x<18446744073709551616/\s2 8 (s1 8 x)+s2 8 (s1 8 x) / 16<18446744073709551616/\w<18446744073709551616/\t<18446744073709551616/\u<18446744073709551616/\u+u / 4294967296<18446744073709551616:=by
 have h:=sum8 (bc 8 (x % 256)) (bc 8 (x / 256 % 256)) (bc 8 (x / 256 / 256 % 256)) (bc 8 (x / 256 / 256 / 256 % 256)) (bc 8 (x / 256 / 256 / 256 / 256 % 256)) (bc 8 (x / 256 / 256 / 256 / 256 / 256 % 256)) (bc 8 (x / 256 / 256 / 256 / 256 / 256 / 256 % 256)) (bc 8 (x / 256 / 256 / 256 / 256 / 256 / 256 / 256 % 256))
  (Iw _ _) (Iw _ _) (Iw _ _) (Iw _ _) (Iw _ _) (Iw _ _) (Iw _ _) (Iw _ _) (pb 8 x) _ _ _ rfl rfl rfl rfl
 intro w t u;have e:w=pb 8 x:=(swar 8 x).1;rw[<- e]at h;have q2:=s2_le 8 x;refine⟨s1_lt 8 x,?_,Nat.lt_of_le_of_lt h.2.1 h.2.2.2.2,Nat.lt_of_le_of_lt h.2.2.1 h.2.2.2.2,Nat.lt_of_le_of_lt h.2.2.2.1 h.2.2.2.2,h.2.2.2.2⟩;clear h e
 clear_value w t u
 generalize s2 8 (s1 8 x)=y at q2;omega
end Go.Proofs.YtjodhcdmhobmoaaGreatDoor.Na
namespace Go.Proofs.YtjodhcdmhobmoaaGreatDoor
open Go Go.Proofs.YtjodhcdmhobmoaaGreatDoor.Le
theorem Z3u {n:Int} (h : -9223372036854775808<=n) (q : n<=9223372036854775807):AV n=n:=by
 simp only[AV,IntKind.wrap,IntKind.signed,IntKind.bits];simp;omega
def cl (z q x:Int):Int:=max z (min x q)
def PZ (s:Fb):Bool:=decide (s.f_low<=s.TV)&&decide (s.TV<=s.tN)
theorem ZyH (xs:List Fb) (F:xs.length<1000):∀(k i:Nat),i+k=xs.length->AY Wl (.b1 xs xs.length i)=some ((xs.drop i).all PZ):=by
 intro k;induction k with
 | zero=>
  intro i C;refine(BA _ _).trans ?_;simp only[Wl,DN];rw[show decide ((i:Int)<(xs.length:Int))=false by simp;omega,List.drop_of_length_le (by omega)];rfl
 | succ k D=>
  intro i C;have A:i<xs.length:=by omega
  refine(BA _ _).trans ?_;simp only[Wl,DN];rw[show decide ((i:Int)<(xs.length:Int))=true by simp;omega];rw[show decide (0<=(i:Int)/\(i:Int)<(xs.length:Int))=true by simp;omega];simp only[cond_true,Int.toNat_natCast,List.getElem?_eq_getElem A,Option.bind_some];rw[List.drop_eq_getElem_cons A,List.all_cons]
  by_cases q:(xs[i]).TV<(xs[i]).f_low
  ·rw[decide_eq_true q,show PZ xs[i]=false by simp[PZ];omega];rfl
  ·by_cases z:(xs[i]).TV>(xs[i]).tN
   ·rw[decide_eq_false q,decide_eq_true z,show PZ xs[i]=false by simp[PZ];omega];rfl
   ·rw[decide_eq_false q,decide_eq_false z,show PZ xs[i]=true by simp[PZ];omega];simp only[cond_false,Bool.true_and];refine(BA _ _).trans ?_;simp only[Wl,DN];rw[Z3u (by omega) (by omega)];exact D (i+1) (by omega)
theorem ZkJ (xs:List Fb) (q:xs.length<1000):ZI xs=some (xs.all PZ):=
 (BA _ _).trans (ZyH xs q xs.length 0 (by simp))
theorem ZqH (x q z:Int):Nh x q z=some (decide (q<=x)&&decide (x<=z)):=(BA _ _).trans (by
 simp only[Z13,DN]
 by_cases h:x>=q
 ·rw[decide_eq_true h];simp
 ·rw[decide_eq_false h];simp)
def inB (x z q:Int):Bool:=decide (z<=x)&&decide (x<=q)
def IX (u:DT):Int:=
 if !(inB u.EX 1 8&&inB u.EW 0 3200&&inB u.Dp 6 3200&&inB u.Dq 0 499&&inB u.Ei 10 3200) then 5
 else if u.EX>=u.Dp then 11 else if u.EW>u.Dp then 11
 else if (AV (u.Ei*(10000:Int)))<=(AV ((AV ((AV ((2:Int)*(AV (u.Dq+(1:Int)))))*u.Dp))*(1250:Int))) then 11 else 0
theorem QH (u:DT):iV u=some (IX u):=(BA _ _).trans (by
 simp only[Z5h,DN];rw[ZkJ _ (by simp)];simp only[List.all_cons,List.all_nil,PZ,Bool.and_true,Option.bind_some,List.length_cons,List.length_nil,IX,inB,Bool.and_assoc];generalize (decide (1<=u.EX)&&_)=b;cases b with
 | false=>rfl
 | true=>
  by_cases q:u.EX>=u.Dp
  ·simp[q]
  ·by_cases z:u.EW>u.Dp
   ·simp[q,z]
   ·by_cases A:(AV (u.Ei*(10000:Int)))<=(AV ((AV ((AV ((2:Int)*(AV (u.Dq+(1:Int)))))*u.Dp))*(1250:Int)))
    ·simp[q,z,A]
    ·simp[q,z,A])
theorem Zjk (u:DT):WW u=some (IX u):=(BA _ _).trans (by
 simp only[jV,DN,ZqH,Option.bind_some,IX];rw[show (decide (1<=u.EX)&&decide (u.EX<=8))=inB u.EX 1 8 from rfl];rw[show (decide (0<=u.EW)&&decide (u.EW<=3200))=inB u.EW 0 3200 from rfl];rw[show (decide (6<=u.Dp)&&decide (u.Dp<=3200))=inB u.Dp 6 3200 from rfl];rw[show (decide (0<=u.Dq)&&decide (u.Dq<=499))=inB u.Dq 0 499 from rfl];rw[show (decide (10<=u.Ei)&&decide (u.Ei<=3200))=inB u.Ei 10 3200 from rfl];cases inB u.EX 1 8<;>first|rfl|skip
 cases inB u.EW 0 3200<;>first|rfl|skip
 cases inB u.Dp 6 3200<;>first|rfl|skip
 cases inB u.Dq 0 499<;>first|rfl|skip
 cases inB u.Ei 10 3200<;>first|rfl|skip
 simp only[Bool.not_true,cond_false,Bool.and_true,Bool.false_eq_true,if_false];refine(BA _ _).trans ?_;simp only[jV,DN]
 by_cases q:u.EX>=u.Dp
 ·simp[q]
 ·by_cases z:u.EW>u.Dp
  ·simp[q,z]
  ·by_cases A:(AV (u.Ei*(10000:Int)))<=(AV ((AV ((AV ((2:Int)*(AV (u.Dq+(1:Int)))))*u.Dp))*(1250:Int)))
   ·simp[q,z,A]
   ·simp[q,z,A])
def fresh:List BC:=List.replicate 37 ⟨0,0⟩
open Go Go.Proofs.YtjodhcdmhobmoaaGreatDoor.Le Go.Proofs.YtjodhcdmhobmoaaGreatDoor.Na
set_option maxRecDepth 100000
theorem Qk {n:Nat} (h:n<18446744073709551616):IntKind.u64.wrap (n:Int)=n:=by
 rw[show IntKind.u64.wrap (n:Int)=(n:Int) % 18446744073709551616 by simp[IntKind.wrap,IntKind.bits,IntKind.signed]];omega
theorem fd (n k:Nat):Int.fdiv (n:Int) (2 ^ k)=((n / 2 ^ k:Nat):Int):=by
 rw[Int.fdiv_eq_ediv_of_nonneg _ (Int.le_of_lt (Int.pow_pos (by decide)))];rw[Int.natCast_ediv];simp
def J1 (a:Int):Int:=IntKind.wrap .u64 ((bits .and .u64 (Int.fdiv a (2 ^ (1:Nat))) (6148914691236517205:Int))+(bits .and .u64 a (6148914691236517205:Int)))
def J2 (a:Int):Int:=IntKind.wrap .u64 ((bits .and .u64 (Int.fdiv a (2 ^ (2:Nat))) (3689348814741910323:Int))+(bits .and .u64 a (3689348814741910323:Int)))
def J3 (a:Int):Int:=bits .and .u64 (IntKind.wrap .u64 ((Int.fdiv a (2 ^ (4:Nat)))+a)) (1085102592571150095:Int)
def J4 (k:Nat) (a:Int):Int:=IntKind.wrap .u64 (a+(Int.fdiv a (2 ^ k)))
theorem j1 (n:Nat) (q:n<18446744073709551616) (h:s1 8 n<18446744073709551616):J1 (n:Int)=(s1 8 n:Nat):=by
 unfold J1;rw[fd,show (6148914691236517205:Int)=((6148914691236517205:Nat):Int) from rfl,u64_and_nat _ _ (by omega) (by decide),u64_and_nat _ _ q (by decide),<- Int.natCast_add];exact Qk h
theorem j2 (n:Nat) (q:n<18446744073709551616) (h:s2 8 n<18446744073709551616):J2 (n:Int)=(s2 8 n:Nat):=by
 unfold J2;rw[fd,show (3689348814741910323:Int)=((3689348814741910323:Nat):Int) from rfl,u64_and_nat _ _ (by omega) (by decide),u64_and_nat _ _ q (by decide),<- Int.natCast_add];exact Qk h
theorem j3 (n:Nat) (h:n+n / 16<18446744073709551616):J3 (n:Int)=(s3 8 n:Nat):=by
 unfold J3;rw[fd,<- Int.natCast_add,Qk (by omega),show (1085102592571150095:Int)=((1085102592571150095:Nat):Int) from rfl,u64_and_nat _ _ (by omega) (by decide)];rfl
theorem j4 (k n:Nat) (h:n+n / 2 ^ k<18446744073709551616):J4 k (n:Int)=((n+n / 2 ^ k:Nat):Int):=by
 unfold J4;rw[fd,<- Int.natCast_add,Qk h]
theorem Zl2 (a:Int):iT a=some (bits .and .i64 (AV (J4 32 (J4 16 (J4 8 (J3 (J2 (J1 a))))))) 127):=(BA _ _).trans rfl
theorem ZC2 (n:Int):AV n % 128=n % 128:=by
 simp only[AV,IntKind.wrap,IntKind.signed,IntKind.bits];simp;split<;>omega
theorem ZnH (n:Nat) (F:n<2 ^ 37):iT (n:Int)=some ((bc 37 n:Nat):Int):=by
 rw[Zl2];have h:=ZCy n;simp only at h;obtain⟨q,z,G,A,C,D⟩:=h;rw[j1 _ (by omega) q,j2 _ q (by omega),j3 _ z,j4 8 _ A,j4 16 _ C,j4 32 _ D];rw[<- ZC0 n F,i64_and127,ZC2];rfl
theorem VJ (n c:Nat) (q:n<18446744073709551616):hasB (n:Int) c=(n / 2 ^ c % 2==1):=by
 unfold hasB;rw[show ((n:Int) / 2 ^ c)=((n / 2 ^ c:Nat):Int) by rw[Int.natCast_ediv];simp];have hb:n / 2 ^ c<18446744073709551616:=Nat.lt_of_le_of_lt (Nat.div_le_self _ _) q;rw[show (1:Int)=((1:Nat):Int) from rfl,u64_and_nat _ _ hb (by decide),nat_mask1];generalize n / 2 ^ c % 2=x
 by_cases h:x=1
 ·subst h;rfl
 ·rw[show (x==1)=false by simpa using h];simpa using fun z =>h (by omega)
theorem ZzZ (n c:Nat) (hc:c<37) (q:n<18446744073709551616):hasB ((n % 2 ^ 37:Nat):Int) c=hasB (n:Int) c:=by
 rw[VJ _ _ (by omega),VJ _ _ q];have e:∀y,(y / 2 ^ c % 2==1)=y.testBit c:=fun y=>by rw[Nat.testBit_eq_decide_div_mod_eq];rcases Nat.mod_two_eq_zero_or_one (y / 2 ^ c) with h|h<;>simp[h]
 rw[e,e,Nat.testBit_mod_two_pow];simp[hc]
theorem ZAE (n:Nat) (q:n<18446744073709551616) (k:Nat):(Cj (n:Int) k).length=bc k n:=by
 induction k with
 | zero=>rfl
 | succ k z=>
  rw[qQ,List.length_append,z,VJ _ _ q];simp only[bc];rcases Nat.mod_two_eq_zero_or_one (n / 2 ^ k) with h|h<;>simp[h]
theorem ZdB (n:Nat) (q:n<18446744073709551616):bits .and .u64 (n:Int) 137438953471=((n % 2 ^ 37:Nat):Int):=by
 rw[show (137438953471:Int)=((137438953471:Nat):Int) from rfl,u64_and_nat _ _ q (by decide),Nat.and_two_pow_sub_one_eq_mod _ 37]
def cnt (m:Int):Int:=((Cj m 37).length:Int)
theorem Z03 (n:Nat) (q:n<18446744073709551616):kH (n:Int)=some (cnt (n:Int)):=(BA _ _).trans (by
 simp only[Z74,DN,ZdB n q];rw[ZnH _ (Nat.mod_lt _ (by decide))];simp only[Option.bind_some,cnt,ZAE n q,Ze9 37 37 n (Nat.le_refl _)])
def has (m c:Int):Bool:=decide (0<=c)&&(decide (c<37)&&hasB m c.toNat)
theorem ZAi (k:Nat) (A:k<=63):∀j i:Nat,i+j=k->AY U6 (.b1 k ((2 ^ i:Nat):Int) i)=some ((2 ^ k:Nat):Int):=by
 intro j;induction j with
 | zero=>
  intro i q;refine(BA _ _).trans ?_;simp only[U6,DN];rw[show decide ((i:Int)<(k:Int))=false by simp;omega,show i=k by omega];rfl
 | succ j z=>
  intro i q;refine(BA _ _).trans ?_;simp only[U6,DN];have C:2 ^ (i+1)<=2 ^ 63:=Nat.pow_le_pow_right (by decide) (by omega);rw[show decide ((i:Int)<(k:Int))=true by simp;omega];simp only[cond_true];rw[show ((2 ^ i:Nat):Int)*2=((2 ^ (i+1):Nat):Int) by rw[Nat.pow_succ];simp,Qk (by omega),Z3u (by omega) (by omega)];exact z (i+1) (by omega)
theorem Z1a (k:Nat) (q:k<=63):Ry (k:Int)=some ((2 ^ k:Nat):Int):=(BA _ _).trans (ZAi k q k 0 (by omega))
theorem ZwH (n:Nat) (A:n<18446744073709551616) (c:Int):Un (n:Int) c=some (has (n:Int) c):=(BA _ _).trans (by
 simp only[Z2r,DN,has]
 by_cases q:c>=0
 ·by_cases z:c<=36
  ·rw[decide_eq_true q,decide_eq_true z,decide_eq_true (show c<37 by omega)];obtain⟨k,rfl⟩:∃k:Nat,c=k:=⟨c.toNat,by omega⟩;have C:0<2 ^ k:=Nat.pow_pos (by decide);simp only[cond_true,Bool.true_and,Int.toNat_natCast];rw[Z1a k (by omega),VJ _ _ A];simp only[Option.bind_some];rw[show (((2 ^ k:Nat):Int) != 0)=true from bne_iff_ne.mpr (Int.natCast_ne_zero.mpr (Nat.pos_iff_ne_zero.mp C))];simp only[cond_true];rw[Int.tdiv_eq_ediv_of_nonneg (Int.natCast_nonneg _),<- Int.natCast_ediv,Qk (Nat.lt_of_le_of_lt (Nat.div_le_self _ _) A),Int.tmod_eq_emod_of_nonneg (Int.natCast_nonneg _)];generalize n / 2 ^ k=x;rcases Nat.mod_two_eq_zero_or_one x with h|h
   ·rw[show ((x:Int) % 2)=0 by omega,h];rfl
   ·rw[show ((x:Int) % 2)=1 by omega,h];rfl
  ·rw[decide_eq_true q,decide_eq_false z,decide_eq_false (show ¬c<37 by omega)];simp
 ·rw[decide_eq_false q];simp)
theorem ZCd (m:Int) (c:Nat) (hc:c<37):has m c=hasB m c:=by
 unfold has;rw[decide_eq_true (show (0:Int)<=c by omega),decide_eq_true (show (c:Int)<37 by omega)];rfl
def MV (m:Int) (k:Nat):List Int:=(Cj m k).map fun c:Nat=>(c:Int)
theorem Z3T (m:Int) (k:Nat):(Cj m k).length<=k:=by
 have q:=List.length_filter_le (hasB m) (List.range k);rw[List.length_range]at q;exact q
theorem ZxB (n:Nat) (C:n<18446744073709551616):∀j i:Nat,i+j=37->AY Ou (.b1 n (MV n i) i)=some (MV n 37):=by
 intro j;induction j with
 | zero=>
  intro i A;refine(BA _ _).trans ?_;simp only[Ou,DN];rw[show decide ((i:Int)<=36)=false by simp;omega,show i=37 by omega];simp
 | succ j D=>
  intro i A;have hb:∀xs:List Int,AY Ou (.b2 n xs i)=AY Ou (.b1 n xs (i+1:Nat)):=fun xs=>(BA _ _).trans (by
   simp only[Ou,DN];rw[Z3u (by omega) (by omega)];simp)
  have F:(MV n i).length<=37:=by
   rw[MV,List.length_map];have:=Z3T n i;omega
  refine(BA _ _).trans ?_;simp only[Ou,DN];rw[show decide ((i:Int)<=36)=true by simp;omega];simp only[cond_true,ZwH n C,Option.bind_some,ZCd (n:Int) i (by omega)];have e:MV n (i+1)=MV n i++if hasB n i then [(i:Int)] else []:=by
   simp only[MV,qQ,List.map_append];split<;>rfl
  have q:=D (i+1) (by omega);rw[e]at q;cases z:hasB (n:Int) i with
  | true=>
   rw[z]at q;simp only[if_true]at q;simp only[cond_true,List.length_cons,List.length_nil,beq_self_eq_true];rw[show (decide (((MV n i).length+(0+1))*8<=lim)&&decide ((MV n i).length+(0+1)<=maxLen))=true from
    Bool.and_eq_true_iff.mpr ⟨decide_eq_true (Nat.le_trans (show _<=1000 by omega) (by decide)),decide_eq_true (Nat.le_trans (show _<=1000 by omega) (by decide))⟩]
   simp only[cond_true,hb];exact q
  | false=>
   rw[z]at q;simp only[Bool.false_eq_true,if_false,List.append_nil]at q;simp only[cond_false,beq_self_eq_true,cond_true,hb];exact q
theorem Zbg (n:Nat) (q:n<18446744073709551616):Ul (n:Int)=some (MV n 37):=(BA _ _).trans (by
 simp only[Ou,DN,List.length_nil,beq_self_eq_true,cond_true];exact ZxB n q 37 0 (by omega))
theorem ZAO (m:Int):((MV m 37).length:Int)=cnt m:=by unfold MV cnt;rw[List.length_map]
theorem ZrZ (n:Nat) (q:n<18446744073709551616):Ud (n:Int)=some (cnt (n:Int)):=(BA _ _).trans (by
 simp only[Z1N,DN,Zbg n q,Option.bind_some,ZAO])
def JF (m:Int):Int:=if m>=137438953472 then 5 else if cnt m<2 then 1 else 0
theorem Zwd (n:Nat) (q:n<18446744073709551616):(bits .andNot .u64 (n:Int) 137438953471 != 0)=decide ((n:Int)>=137438953472):=by
 rw[show (137438953471:Int)=((137438953471:Nat):Int) from rfl,u64_andNot_nat _ _ q (by decide)];have e:n &&& (18446744073709551615 - 137438953471)=2 ^ 37*(n / 2 ^ 37):=by
  refine Nat.eq_of_testBit_eq fun j=>?_;rw[Nat.testBit_and,show 18446744073709551615 - 137438953471=2 ^ 37*(2 ^ 27 - 1)+0 from rfl,Nat.testBit_two_pow_mul_add _ (by decide),show 2 ^ 37*(n / 2 ^ 37)=2 ^ 37*(n / 2 ^ 37)+0 from rfl,Nat.testBit_two_pow_mul_add _ (by decide)];split
  ·simp
  ·rename_i z;rw[Nat.testBit_div_two_pow,Nat.testBit_two_pow_sub_one,show j - 37+37=j by omega]
   by_cases h:j - 37<27
   ·simp[h]
   ·have:n.testBit j=false:=Nat.testBit_lt_two_pow (Nat.lt_of_lt_of_le q (by
     have:2 ^ 64<=2 ^ j:=Nat.pow_le_pow_right (by decide) (by omega);simpa using this))
    simp[this]
 rw[e]
 by_cases h:(n:Int)>=137438953472
 ·rw[decide_eq_true h];simp;omega
 ·rw[decide_eq_false h,show n / 2 ^ 37=0 by omega];rfl
theorem Zlt (n:Nat) (z:n<18446744073709551616):ZT (n:Int)=some (JF n):=(BA _ _).trans (by
 simp only[Z73,DN,Zwd n z,Z03 n z,Option.bind_some,JF]
 by_cases h:(n:Int)>=137438953472
 ·rw[decide_eq_true h,if_pos h];rfl
 ·rw[decide_eq_false h,if_neg h]
  by_cases q:cnt n<2
  ·rw[decide_eq_true q,if_pos q];rfl
  ·rw[decide_eq_false q,if_neg q];rfl)
theorem Ztx (n:Nat) (z:n<18446744073709551616):Xx (n:Int)=some (JF n):=(BA _ _).trans (by
 simp only[Z1p,DN];rw[show Ry 37=some 137438953472 from Z1a 37 (by decide)];simp only[ZrZ n z,Option.bind_some,JF]
 by_cases h:(n:Int)>=137438953472
 ·rw[decide_eq_true h,if_pos h];rfl
 ·rw[decide_eq_false h,if_neg h]
  by_cases q:cnt n<2
  ·rw[decide_eq_true q,if_pos q];rfl
  ·rw[decide_eq_false q,if_neg q];rfl)
def R8 (n:Int):Prop:=0<=n/\n<256
def R16 (n:Int):Prop:=0<=n/\n<65536
def R32 (n:Int):Prop:=0<=n/\n<4294967296
def Bv (n:Int):Prop:=0<=n/\n<18446744073709551616
inductive CV:AL->Prop
 | upd (u:DT) (i:Int):IX u=0->R16 i->CV ⟨0,u,0,i,0,0,0,0,0,0,0⟩
 | map (m i:Int):Bv m->JF m=0->R16 i->CV ⟨1,Ba,m,i,0,0,0,0,0,0,0⟩
 | term (r:Int):R8 r->CV ⟨2,Ba,0,0,r,0,0,0,0,0,0⟩
 | enc (s m:Int):Bv s->Bv m->CV ⟨3,Ba,0,0,0,0,s,m,0,0,0⟩
 | ans (s:Int):Bv s->CV ⟨4,Ba,0,0,0,0,s,0,0,0,0⟩
 | plain (k:Int):(k=5\/k=6\/k=18\/k=19)->CV ⟨k,Ba,0,0,0,0,0,0,0,0,0⟩
 | gZ (r:Int):R8 r->CV ⟨7,Ba,0,0,0,r,0,0,0,0,0⟩
 | vF (k f:Int):(k=8\/k=9)->Bv f->CV ⟨k,Ba,0,0,0,0,0,0,f,0,0⟩
 | iC (v:Int):R8 v->CV ⟨12,Ba,0,0,0,0,0,0,0,v,0⟩
 | iK (r k:Int):R8 r->R8 k->CV ⟨13,Ba,0,0,r,k,0,0,0,0,0⟩
 | par (u:DT):IX u=0->CV ⟨15,u,0,0,0,0,0,0,0,0,0⟩
 | len (k n:Int):(k=20\/k=21)->27<=n->n<=251->CV ⟨k,Ba,0,0,0,0,0,0,0,0,n⟩
theorem CV.ZDB {c:AL} (h:CV c) (q:c.Kind=20):27<=c.Length/\c.Length<=251:=by
 cases h<;>first|(dsimp only at q;omega)|exact⟨by assumption,by assumption⟩
theorem CV.inst {c:AL} {i:Int} (h:CV c) (z:c.Kind=0\/c.Kind=1) (q:R16 i):CV { c with CP:=i }:=by
 cases h<;>first|(dsimp only at z;omega)|exact CV.upd _ _ (by assumption) q|exact CV.map _ _ (by assumption) (by assumption) q
def Ci (l:List Int):Prop:=∀b∈l,R8 b
theorem Ze3 (n:Int):R8 (IntKind.wrap .u8 n):=by unfold R8;rw[IntKind.wrap_u8];omega
theorem Zdt (n:Int):R16 (IntKind.wrap .u16 n):=by unfold R16;rw[IntKind.wrap_u16];omega
theorem ZdH (n:Int):R32 (IntKind.wrap .u32 n):=by unfold R32;rw[IntKind.wrap_u32];omega
theorem GN (n:Int):Bv (IntKind.wrap .u64 n):=by unfold Bv;rw[IntKind.wrap_u64];omega
theorem ZCU (o:BinOp) (a b:Int):R8 (bits o .u8 a b):=Ze3 _
theorem ZC4 (o:BinOp) (a b:Int):R16 (bits o .u16 a b):=Zdt _
theorem ZCa (o:BinOp) (a b:Int):R32 (bits o .u32 a b):=ZdH _
theorem ZBu (o:BinOp) (a b:Int):Bv (bits o .u64 a b):=GN _
theorem Iz:Bv 0:=by unfold Bv;omega
theorem ZDY:Bv 63:=by unfold Bv;omega
theorem fV:R16 0:=by unfold R16;omega
theorem Z47:R32 0:=by unfold R32;omega
theorem ZdD:Ci []:=fun _ h=>nomatch h
theorem ZAK (a b:List Int):Ci (a++b)↔Ci a/\Ci b:=by simp only[Ci,List.mem_append];exact⟨fun h=>⟨fun x q=>h x (.inl q),fun x q=>h x (.inr q)⟩,fun h x q=>q.elim (h.1 x) (h.2 x)⟩
theorem ZA0 (a:Int) (b:List Int):Ci (a::b)↔R8 a/\Ci b:=by simp only[Ci,List.mem_cons,forall_eq_or_imp]
theorem Zzn (n:Nat) (l:List Int) (h:Ci l):Ci (l.take n):=fun x q=>h x (List.mem_of_mem_take q)
theorem ZzS (n:Nat) (l:List Int) (h:Ci l):Ci (l.drop n):=fun x q=>h x (List.mem_of_mem_drop q)
theorem ZAL {l:List Int} (h:Ci l) {x:Int} (q:x∈l):R8 x:=h x q
theorem ZvB (xs:List Int):Le.bytesOf (xs.map (U.enc 5))=some (xs.map fun n=>UInt8.ofNat n.toNat):=by
 induction xs with
 | nil=>rfl
 | cons x xs z=>
  rw[List.map_cons];show (match Le.byteOf (U.enc 5 x),Le.bytesOf (xs.map (U.enc 5)) with|some b,some q=>some (b::q)|_,_=>none)=_;rw[z];rfl
theorem Gh (xs:List Int) (h:xs.length<=1000000):Lm U 5 xs=true:=by
 unfold Lm;rw[ZvB];exact decide_eq_true (by rw[List.length_map];exact Nat.le_trans (Nat.le_trans h (by decide)) (by decide:1000000000<=maxLen))
def Bj (c:AL):Prop:=Bv c.Map/\R16 c.CP/\Bv c.CE/\Bv c.Mark/\Bv c.DK/\0<=c.Kind
theorem CV.ct {c:AL} (h:CV c):Bj c:=by
 cases h<;>refine⟨?_,?_,?_,?_,?_,?_⟩<;>first|assumption|exact Iz|exact fV|(dsimp only;omega)
theorem CV.unkK (k:Int):CV ⟨7,Ba,0,0,0,(if (255:Int)<(if (0:Int)>k then (0:Int) else k) then (255:Int) else (if (0:Int)>k then (0:Int) else k)),0,0,0,0,0⟩:=CV.gZ _ (by unfold R8;split<;>split<;>omega)
theorem CV.unkW {x:Int} (h:R8 x):CV ⟨7,Ba,0,0,0,AV x,0,0,0,0,0⟩:=by obtain⟨q,z⟩:=h;rw[Bo (by omega) (by omega)];exact CV.gZ _ ⟨q,z⟩
theorem CV.rejK:CV ⟨13,Ba,0,0,6,3,0,0,0,0,0⟩:=CV.iK _ _ ⟨by decide,by decide⟩ ⟨by decide,by decide⟩
theorem CV.rejC:CV ⟨13,Ba,0,0,42,15,0,0,0,0,0⟩:=CV.iK _ _ ⟨by decide,by decide⟩ ⟨by decide,by decide⟩
theorem CV.verK:CV ⟨12,Ba,0,0,0,0,0,0,0,11,0⟩:=CV.iC _ ⟨by decide,by decide⟩
def Ku (c:BF):Prop:=Bv c.Map/\R16 c.CP
def FB (l:List AL):Prop:=∀c∈l,CV c
def FQ (l:List BF):Prop:=∀c∈l,Ku c
def CO (p:BB):Prop:=p.Payload.length<=65536/\Ci p.Payload
def Eo (p:BB):Prop:=1<=p.CQ/\p.CQ<=3/\1<=p.Payload.length/\p.Payload.length<=251/\Ci p.Payload
def JW (l:List BB):Prop:=∀p∈l,Eo p
def EI (n:Int):Prop:=n=0\/n=1
theorem ZEp:EI 0:=.inl rfl
theorem ZE5:EI 1:=.inr rfl
theorem Zxs {n:Int} (h:EI n):EI (AV (1 - n)):=by rcases h with rfl|rfl<;>first|exact .inr rfl|exact .inl rfl
def DX (a:Bd):Prop:=EI a.SN/\EI a.Ee/\a.Aq.length<=64/\JW a.Aq/\(a.Open=true->a.Empty=false->0<a.Aq.length)
def BM (s:A7):Prop:=s.Aa.length<=8/\s.Ak.length<=1/\FB s.Aa/\FQ s.Ak/\Bv s.DK/\Bv s.CE/\Bv s.GK/\Bv s.Mark/\EI s.BR /\ -1<=s.Own /\ -1<=s.Other/\27<=s.Limit/\s.Limit<=251
def Gt (s:Cm):Prop:=Bv s.Key/\Bv s.CE/\Bv s.Tx/\Bv s.Rx
def Jo (p:Fa):Prop:=R32 p.P5/\R32 p.Qz/\Bv p.Map
def BQ (k:Int) (l:Ac):Prop:=DX l.Ag/\BM l.AB/\Gt l.Dk/\Jo l.CZ/\(l.Aw.length:Int)<=k/\FB l.Aw/\l.BI.length<=37/\R16 l.Event/\Bv l.Key/\Bv l.Eg/\EI l.BR
def Eu (a:EN):Prop:=CO a.BU/\a.BU.Payload.length<=4096/\Bv a.Map/\Bv a.Number/\Bv a.Key
def Pz (a:EN):Prop:=Ci a.BU.Payload/\Bv a.Map/\Bv a.Number/\Bv a.Key
def Ij (e:Em):Prop:=∀a∈e.RG,Pz a
theorem ZA6 {e:Em} (h:Ij e) {a:EN} (q:a∈e.RG):Pz a:=h a q
def D5 (k:Int) (s:CS):Prop:=BQ k s.x0/\BQ k s.x1
theorem GL {a b:Int} {l:Ac} (h:BQ a l) (q:a<=b):BQ b l:=⟨h.1,h.2.1,h.2.2.1,h.2.2.2.1,Int.le_trans h.2.2.2.2.1 q,h.2.2.2.2.2⟩
theorem Gj {a b:Int} {s:CS} (h:D5 a s) (q:a<=b):D5 b s:=⟨GL h.1 q,GL h.2 q⟩
def evL (l:List Em):Prop:=∀e∈l,Ij e
theorem ZCG {l:List Em} (h:evL l) {e:Em} (q:e∈l):Ij e:=h e q
def ES (x:Il):Prop:=Jo x.CZ/\Bv x.Keys.x0/\Bv x.Keys.x1/\evL x.Events
def Hg (l:List Int):Prop:=∀x∈l,0<=x/\x<=36
theorem ZAj:Hg []:=fun _ h=>nomatch h
theorem ZA4 (a b:List Int):Hg (a++b)↔Hg a/\Hg b:=by simp only[Hg,List.mem_append];exact⟨fun h=>⟨fun x q=>h x (.inl q),fun x q=>h x (.inr q)⟩,fun h x q=>q.elim (h.1 x) (h.2 x)⟩
theorem Zxl (a:Int) (b:List Int):Hg (a::b)↔(0<=a/\a<=36)/\Hg b:=by simp only[Hg,List.mem_cons,forall_eq_or_imp]
theorem ZxN (n:Nat) (l:List Int) (h:Hg l):Hg (l.take n):=fun x q=>h x (List.mem_of_mem_take q)
theorem Zxv (n:Nat) (l:List Int) (h:Hg l):Hg (l.drop n):=fun x q=>h x (List.mem_of_mem_drop q)
theorem Zzd {l:List Int} (h:Hg l) {x:Int} (q:x∈l):0<=x/\x<=36:=h x q
theorem ZAS:FB []:=fun _ h=>nomatch h
theorem ZB6 (a b:List AL):FB (a++b)↔FB a/\FB b:=by simp only[FB,List.mem_append];exact⟨fun h=>⟨fun x q=>h x (.inl q),fun x q=>h x (.inr q)⟩,fun h x q=>q.elim (h.1 x) (h.2 x)⟩
theorem ZAq (a:AL) (b:List AL):FB (a::b)↔CV a/\FB b:=by simp only[FB,List.mem_cons,forall_eq_or_imp]
theorem ZAw (n:Nat) (l:List AL) (h:FB l):FB (l.take n):=fun x q=>h x (List.mem_of_mem_take q)
theorem ZA5 (n:Nat) (l:List AL) (h:FB l):FB (l.drop n):=fun x q=>h x (List.mem_of_mem_drop q)
theorem ZBM {l:List AL} (h:FB l) {x:AL} (q:x∈l):CV x:=h x q
theorem ZAd:FQ []:=fun _ h=>nomatch h
theorem Zzw (a b:List BF):FQ (a++b)↔FQ a/\FQ b:=by simp only[FQ,List.mem_append];exact⟨fun h=>⟨fun x q=>h x (.inl q),fun x q=>h x (.inr q)⟩,fun h x q=>q.elim (h.1 x) (h.2 x)⟩
theorem ZyL (a:BF) (b:List BF):FQ (a::b)↔Ku a/\FQ b:=by simp only[FQ,List.mem_cons,forall_eq_or_imp]
theorem ZAp {l:List BF} (h:FQ l) {x:BF} (q:x∈l):Ku x:=h x q
theorem ZdG:JW []:=fun _ h=>nomatch h
theorem ZBw (a b:List BB):JW (a++b)↔JW a/\JW b:=by simp only[JW,List.mem_append];exact⟨fun h=>⟨fun x q=>h x (.inl q),fun x q=>h x (.inr q)⟩,fun h x q=>q.elim (h.1 x) (h.2 x)⟩
theorem ZAx (a:BB) (b:List BB):JW (a::b)↔Eo a/\JW b:=by simp only[JW,List.mem_cons,forall_eq_or_imp]
theorem ZzD (n:Nat) (l:List BB) (h:JW l):JW (l.take n):=fun x q=>h x (List.mem_of_mem_take q)
theorem Zze (n:Nat) (l:List BB) (h:JW l):JW (l.drop n):=fun x q=>h x (List.mem_of_mem_drop q)
theorem ZCn {l:List BB} (h:JW l) {x:BB} (q:x∈l):Eo x:=h x q
theorem ZAR:DX Ld:=⟨.inl rfl,.inl rfl,Nat.zero_le _,ZdG,fun h=>nomatch h⟩
theorem ZDJ:Gt Oj:=⟨Iz,Iz,Iz,Iz⟩
theorem ZD4:Jo Z6S:=⟨Z47,Z47,Iz⟩
theorem ZE8:Bj Fp:=⟨Iz,fV,Iz,Iz,Iz,by decide⟩
theorem ZDo:Ku UZ:=⟨Iz,fV⟩
theorem ZDG:CO IA.BU:=⟨Nat.zero_le _,ZdD⟩
def Ey:List Bl:=[⟨true,true,false,true,false,false,false,false,false,false,false⟩,⟨true,false,true,true,false,false,false,false,false,false,false⟩,⟨true,false,false,false,true,false,false,false,false,false,false⟩,⟨true,false,false,false,false,false,true,true,false,false,false⟩,⟨true,false,false,false,false,false,true,false,false,false,false⟩,⟨true,false,false,false,false,false,false,false,false,false,false⟩,⟨true,false,false,false,false,true,false,false,false,false,false⟩,⟨true,false,false,false,false,false,false,false,true,false,false⟩,⟨true,false,false,false,false,false,false,false,false,true,false⟩,⟨true,false,false,false,true,true,false,false,false,false,false⟩,⟨true,true,false,false,false,false,false,false,false,false,false⟩,⟨true,false,false,false,false,false,false,false,false,false,true⟩,⟨false,false,false,false,false,false,false,false,false,false,false⟩]
def D8 (u:Bl):Prop:=u∈Ey
def Gw (u:Bl):Int:=1+cond u.BG 9 0+cond u.Map 5 0+cond u.CP 2 0+cond (u.Bq||u.Version||u.Length) 1 0+cond u.Dx 1 0+cond (u.CE||u.DK) 8 0+cond u.Mark 8 0
theorem ZzU {l:List Int} {v:Int} (h:Ci l) (z:v∈l):Bj ⟨AV v,Ba,0,0,0,0,0,0,0,0,0⟩:=by
 obtain⟨q,A⟩:=h v z;refine⟨Iz,fV,Iz,Iz,Iz,?_⟩;show 0<=AV v;rw[Bo (by omega) (by omega)];exact q
attribute [grind] BQ DX BM Gt Jo Bj Ku Eu Pz D5 ES CO Eo
attribute [grind .] CV.upd CV.map CV.term CV.enc CV.ans CV.plain CV.gZ CV.vF CV.iC CV.iK CV.par CV.len CV.inst CV.unkK CV.unkW CV.rejK CV.rejC CV.verK ZEp ZE5 Ze3 Zdt ZdH GN ZCU ZC4 ZCa ZBu ZAR ZDJ ZD4 ZE8 ZDo ZDG Iz ZDY fV Z47 ZdD Zzn ZzS ZAj ZxN Zxv ZAS ZAw ZA5 ZAd ZdG ZzD Zze
attribute [grind =] ZAK ZA0 List.length_take List.length_drop ZA4 Zxl ZB6 ZAq Zzw ZyL ZBw ZAx
attribute [grind ->] CV.ct CV.ZDB Zxs ZA6 ZCG ZAL Zzd ZBM ZAp ZCn
set_option maxHeartbeats 2000000
def Z3k (l:List Int):Prop:=Lm U 5 l=true
theorem ZrQ (p:BB) (h:Z3k p.Payload):ZF p p=some true:=(BA _ _).trans (by
 simp only[Z6L,DN,beq_self_eq_true,cond_true];rw[show Lm U 5 p.Payload=true from h];rfl)
theorem ZpW (xs:List BB) (C:xs.length<4611686018427387904) (h:∀p∈xs,Z3k p.Payload):Ze xs xs=some true:=(BA _ _).trans (by
 have step:∀j i:Nat,i+j=xs.length->AY We (.b1 xs xs i)=some true:=by
  intro j;induction j with
  | zero=>
   intro i z;refine(BA _ _).trans ?_;simp only[We,DN];rw[show decide ((i:Int)<(xs.length:Int))=false by simp;omega];rfl
  | succ j A=>
   intro i z;have q:i<xs.length:=by omega
   refine(BA _ _).trans ?_;simp only[We,DN];rw[show decide ((i:Int)<(xs.length:Int))=true by simp;omega,show decide (0<=(i:Int)/\(i:Int)<(xs.length:Int))=true by simp;omega];simp only[cond_true,Int.toNat_natCast,List.getElem?_eq_getElem q,Option.bind_some,ZrQ _ (h _ (List.getElem_mem q)),Bool.not_true,cond_false];rw[Bo (by omega) (by omega)];exact A (i+1) (by omega)
 simp only[We,DN,bne_self_eq_false,cond_false];exact step xs.length 0 (by omega))
theorem Z8F (xs:List AL) (C:xs.length<4611686018427387904):jR xs xs=some true:=(BA _ _).trans (by
 have step:∀j i:Nat,i+j=xs.length->AY WR (.b1 xs xs i)=some true:=by
  intro j;induction j with
  | zero=>
   intro i q;refine(BA _ _).trans ?_;simp only[WR,DN];rw[show decide ((i:Int)<(xs.length:Int))=false by simp;omega];rfl
  | succ j A=>
   intro i q;have z:i<xs.length:=by omega
   refine(BA _ _).trans ?_;simp only[WR,DN];rw[show decide ((i:Int)<(xs.length:Int))=true by simp;omega,show decide (0<=(i:Int)/\(i:Int)<(xs.length:Int))=true by simp;omega];simp only[cond_true,Int.toNat_natCast,List.getElem?_eq_getElem z,Option.bind_some,Gi,beq_self_eq_true,Bool.and_true,Bool.not_true,cond_false];rw[Bo (by omega) (by omega)];exact A (i+1) (by omega)
 simp only[WR,DN,bne_self_eq_false,cond_false];exact step xs.length 0 (by omega))
theorem Zwt (p:A7) (q:p.Aa.length<4611686018427387904) (D:p.Ak.length<4611686018427387904):Z04 p p=some true:=(BA _ _).trans (by
 have step:∀j i:Nat,i+j=p.Ak.length->AY XA (.b2 i p p)=some true:=by
  intro j;induction j with
  | zero=>
   intro i z;refine(BA _ _).trans ?_;simp only[XA,DN];rw[show decide ((i:Int)<(p.Ak.length:Int))=false by simp;omega];simp only[beq_self_eq_true,cond_true,cond_false]
  | succ j C=>
   intro i z;have A:i<p.Ak.length:=by omega
   refine(BA _ _).trans ?_;simp only[XA,DN];rw[show decide ((i:Int)<(p.Ak.length:Int))=true by simp;omega,show decide (0<=(i:Int)/\(i:Int)<(p.Ak.length:Int))=true by simp;omega];simp only[cond_true,Int.toNat_natCast,List.getElem?_eq_getElem A,Option.bind_some,Gi,beq_self_eq_true,Bool.and_true,Bool.not_true,cond_false];rw[Bo (by omega) (by omega)];exact C (i+1) (by omega)
 simp only[XA,DN,Z8F _ q,Option.bind_some,Bool.not_true,cond_false,bne_self_eq_false];refine(BA _ _).trans ?_;exact step p.Ak.length 0 (by omega))
structure LWF (l:Ac):Prop where
 tal:l.BI.length<4611686018427387904
 que:l.Ag.Aq.length<4611686018427387904
 pay:∀p∈l.Ag.Aq,Z3k p.Payload
 QA:l.AB.Aa.length<4611686018427387904
 pen:l.AB.Ak.length<4611686018427387904
 com:l.Aw.length<4611686018427387904
theorem Zyh (l:Ac) (h:LWF l):Z2j l l=some true:=(BA _ _).trans (by
 have A:AY NG (.b4 l l)=some true:=(BA _ _).trans (by
  simp only[NG,DN,Zwt _ h.QA h.pen,Z8F _ h.com,Option.bind_some,beq_self_eq_true,cond_true])
 have z:AY NG (.b3 l l)=some true:=(BA _ _).trans (by
  simp only[NG,DN,beq_self_eq_true,Bool.and_true,Bool.not_true,cond_false,A])
 have q:AY NG (.b2 l l)=some true:=(BA _ _).trans (by
  simp only[NG,DN,beq_self_eq_true,Bool.and_true,Bool.not_true,cond_false,bne_self_eq_false,z])
 have step:∀j i:Nat,i+j=l.BI.length->AY NG (.b1 i l l)=some true:=by
  intro j;induction j with
  | zero=>
   intro i C;refine(BA _ _).trans ?_;simp only[NG,DN];rw[show decide ((i:Int)<(l.BI.length:Int))=false by simp;omega];simp only[beq_self_eq_true,Bool.not_true,cond_false,bne_self_eq_false,ZpW _ h.que h.pay,Option.bind_some,q]
  | succ j F=>
   intro i C;have D:i<l.BI.length:=by omega
   have G:=h.tal;refine(BA _ _).trans ?_;simp only[NG,DN];rw[show decide ((i:Int)<(l.BI.length:Int))=true by simp;omega,show decide (0<=(i:Int)/\(i:Int)<(l.BI.length:Int))=true by simp;omega];simp only[cond_true,Int.toNat_natCast,List.getElem?_eq_getElem D,Option.bind_some,Gi,beq_self_eq_true,Bool.and_true,Bool.not_true,cond_false];rw[Bo (by omega) (by omega)];exact F (i+1) (by omega)
 simp only[NG,DN,bne_self_eq_false,cond_false];exact step l.BI.length 0 (by omega))
theorem BQ.lwf {k:Int} {l:Ac} (h:BQ k l) (Y:k<=1000000):LWF l:=by
 obtain⟨z,A,J,M,N,O,Q,S⟩:=h;obtain⟨D,F,G,q,I⟩:=z;obtain⟨b1,b2,b3⟩:=A;refine⟨by omega,by omega,fun p C=>Gh _ ?_,by omega,by omega,by omega⟩;have:=(q p C).2.2.2.1;omega
theorem Zhc (p0:List Int) (h:p0.length<=1000000):∃r,RX p0=some r/\r.q0=p0:=⟨⟨p0⟩,if_pos ⟨by rw[Cb];omega,by rw[maxLen_eq];omega⟩,rfl⟩
theorem Z5c (p0:List AL) (h:p0.length<=1000000):∃r,RS p0=some r/\r.q0=p0:=⟨⟨p0⟩,if_pos ⟨by rw[Cb];omega,by rw[maxLen_eq];omega⟩,rfl⟩
theorem Zg2 (p0:List BF) (h:p0.length<=1000000):∃r,QG p0=some r/\r.q0=p0:=⟨⟨p0⟩,if_pos ⟨by rw[Cb];omega,by rw[maxLen_eq];omega⟩,rfl⟩
theorem Zgo (p0:List BC) (h:p0.length<=1000000):∃r,jC p0=some r/\r.q0=p0:=⟨⟨p0⟩,if_pos ⟨by rw[Cb];omega,by rw[maxLen_eq];omega⟩,rfl⟩
theorem ZEm {L:Type} {t:Nat} {l:List (U.Ty t)} {i:Int} {k:U.Ty t->Tr U L} {Q:L->Prop} (h:0<=i/\i<(l.length:Int)) (g:∀q:i.toNat<l.length,Tot (k l[i.toNat]) Q):Tot (.bind t (l[Int.toNat i]?) k) Q:=by
 have q:i.toNat<l.length:=by omega
 exact⟨l[i.toNat],List.getElem?_eq_getElem q,g q⟩
theorem rE {L:Type} {l:List BB} {i:Int} {k:BB->Tr U L} {Q:L->Prop} (h:0<=i/\i<(l.length:Int)) (g:∀q:i.toNat<l.length,Tot (k l[i.toNat]) Q):Tot (Tr.bind (U:=U) 68 (l[Int.toNat i]? : Option BB) k) Q:=ZEm (t:=68) h g
theorem take_set {α:Type} {a b:List α} {n:Nat} (A:n<b.length) (C:a.length=b.length) (h:a.take n=b.take n):(a.set n b[n]).take (n+1)=b.take (n+1):=by
 apply List.ext_getElem?;intro j;rw[List.getElem?_take,List.getElem?_take]
 by_cases z:j<n+1
 ·rw[if_pos z,if_pos z,List.getElem?_set]
  by_cases q:n=j
  ·subst q;rw[if_pos rfl,if_pos (by omega)];exact(List.getElem?_eq_getElem A).symm
  ·rw[if_neg q];have:=congrArg (fun l=>l[j]?) h;simp only[List.getElem?_take]at this;rw[if_pos (by omega),if_pos (by omega)]at this;exact this
 ·rw[if_neg z,if_neg z]
theorem Zse (k:Int) (q:Ac) (Y:BQ k q) (I:0<=k) (h2:k<=1000000):∃r,nV q=some r/\(r.q0=⟨q,[]⟩):=by
 have hq:=Y;dsimp only[BQ,DX,BM]at hq;have M:∀p∈q.Ag.Aq,p.Payload.length<=1000000:=fun p C=>by
  have:=(Y.1.2.2.2.1 p C).2.2.2.1;omega
 refine BK (T:=nD) (post:=fun r=>r.q0=⟨q,[]⟩) (fun p=>match p with | .b0 A=>A=q | .b1 A G F z D=>D=q/\G=q.Ag.Aq/\F=(q.Ag.Aq.length:Int)/\A.length=q.Ag.Aq.length/\0<=z/\z<=(q.Ag.Aq.length:Int)/\A.take z.toNat=q.Ag.Aq.take z.toNat)
  (fun p=>match p with | .b0 _=>(1,0,0) | .b1 A G F z D=>(0,(F - z).toNat,0)) ?_ (.b0 q) rfl
 intro p C;cases p with
 | b0 A=>
  dsimp only at C;subst C;simp only[nD];refine Dl (by simp[kL,kA,Cb,maxLen_eq]<;>omega) ?_;refine Dl (by simp[kL,kA,Cb,maxLen_eq]<;>omega) ?_;refine Ea ?_;exact⟨⟨rfl,rfl,rfl,by rw[List.length_replicate];omega,by omega,by omega,by simp⟩,Zem (by omega)⟩
 | b1 A G F z D=>
  dsimp only at C;obtain⟨rfl,rfl,rfl,J,g1,g2,ht⟩:=C;simp only[nD];refine FM (fun h=>?_) (fun h=>?_)
  ·simp only[decide_eq_true_eq,decide_eq_false_iff_not]at h;refine Dl (by simp[kL,kA,Cb,maxLen_eq]<;>omega) ?_;refine rE (by omega) (fun hi=>?_);refine Az (Zhc _ (M _ (List.getElem_mem hi))) (fun(v:UB) hm hv=>?_);refine Dl (by simp[kL,kA,Cb,maxLen_eq]<;>omega) ?_;refine Dl (by simp[kL,kA,Cb,maxLen_eq]<;>omega) ?_;refine Dl (by simp[kL,kA,Cb,maxLen_eq]<;>omega) ?_;refine rE (by omega) (fun hi' =>?_);refine Dl (by simp[kL,kA,Cb,maxLen_eq]<;>omega) ?_;refine Dl (by simp[kL,kA,Cb,maxLen_eq]<;>omega) ?_;refine Ea ?_;dsimp only;rw[Bo (by omega) (by omega),hv];refine⟨⟨rfl,rfl,rfl,by rw[List.length_set];exact J,by omega,by omega,?_⟩,ZeE (by omega)⟩;rw[show (z+1).toNat=z.toNat+1 by omega];exact take_set hi J ht
  ·simp only[decide_eq_true_eq,decide_eq_false_iff_not]at h;have he:A=D.Ag.Aq:=by
    have e1:z.toNat=A.length:=by omega
    have e2:z.toNat=D.Ag.Aq.length:=by omega
    have I:=ht;rw[e1,List.take_length]at I;rw[I,J,List.take_length]
   subst he;refine Az (Z5c _ (by omega)) (fun(v1:QD) hm1 N=>?_);refine Az (Zg2 _ (by omega)) (fun(v2:QE) hm2 O=>?_);refine Az (Zgo _ (by omega)) (fun(v3:WJ) hm3 Q=>?_);refine Az (Z5c _ (by omega)) (fun(v4:QD) hm4 S=>?_);refine Dl (by simp) ?_;refine Ea ?_;dsimp only;rw[N,O,Q,S]
theorem Zjh (p0:List BB) (M:p0.length<=64) (F:JW p0):∃r,Zn p0=some r/\r=p0:=by
 refine BK (T:=kC) (post:=fun r=>r=p0) (fun p=>match p with | .b0 z=>z=p0 | .b1 z C q=>z=p0/\0<=q/\q<=(p0.length:Int)/\C=p0.take q.toNat)
  (fun p=>match p with | .b0 _=>(1,0,0) | .b1 z C q=>(0,((z.length:Int) - q).toNat,0)) ?_ (.b0 p0) rfl
 intro p A;cases p with
 | b0 z=>
  dsimp only at A;subst A;simp only[kC];refine Dl (by simp[kL,kA,Cb,maxLen_eq]<;>omega) ?_;refine Ea ?_;exact⟨⟨rfl,by omega,by omega,by simp⟩,Zem (by omega)⟩
 | b1 z C q=>
  dsimp only at A;obtain⟨rfl,I,J,rfl⟩:=A;simp only[kC];refine FM (fun h=>?_) (fun h=>?_)
  ·simp only[decide_eq_true_eq,decide_eq_false_iff_not]at h;refine Dl (by simp[kL,kA,Cb,maxLen_eq]<;>omega) ?_;refine rE (by omega) (fun D=>?_);have G:=(F _ (List.getElem_mem D)).2.2.2.1;refine Dl (by simp[kL,kA,Cb,maxLen_eq]<;>omega) ?_;refine rE (by omega) (fun hi' =>?_);refine Dl (by simp[kL,kA,Cb,maxLen_eq]<;>omega) ?_;refine Dl (by simp[kL,kA,Cb,maxLen_eq]<;>omega) ?_;refine Dl (by simp) ?_;refine Dl (by simp[kL,kA,Cb,maxLen_eq]<;>omega) ?_;refine Dl (by simp[kL,kA,Cb,maxLen_eq]<;>omega) ?_;refine Dl (by simp[kL,kA,Cb,maxLen_eq]<;>omega) ?_;refine Dl (by simp) ?_;refine Ea ?_;dsimp only;rw[Bo (by omega) (by omega),List.nil_append];refine⟨⟨rfl,by omega,by omega,?_⟩,ZeE (by omega)⟩;rw[show (q+1).toNat=q.toNat+1 by omega]
   first|exact List.take_append_getElem D|exact(List.take_append_getElem D).symm|simp
  ·simp only[decide_eq_true_eq,decide_eq_false_iff_not]at h;refine Dl (by simp[kL,kA,Cb,maxLen_eq]<;>omega) ?_;refine Ea ?_;dsimp only;rw[show q.toNat=z.length by omega,List.take_length]
theorem OQ {n:Int} (h : -9223372036854775808<=n) (q : n<=9223372036854775807):AV n=n:=by
 simp only[AV,IntKind.wrap,IntKind.signed,IntKind.bits];simp;omega
theorem SK (i:Nat) (h:i<4611686018427387904):AV ((i:Int)+1)=((i+1:Nat):Int):=by
 rw[OQ (by omega) (by omega)];simp
theorem wu64 {n:Int} (h:0<=n) (q : n<18446744073709551616):IntKind.wrap .u64 n=n:=by rw[IntKind.wrap_u64];exact Int.emod_eq_of_lt h q
theorem Vq {n:Int} (h:0<=n) (q : n<4294967296):IntKind.wrap .u32 n=n:=by rw[IntKind.wrap_u32];exact Int.emod_eq_of_lt h q
theorem wu16 {n:Int} (h:0<=n) (q : n<65536):IntKind.wrap .u16 n=n:=by rw[IntKind.wrap_u16];exact Int.emod_eq_of_lt h q
theorem wu8 {n:Int} (h:0<=n) (q : n<256):IntKind.wrap .u8 n=n:=by rw[IntKind.wrap_u8];exact Int.emod_eq_of_lt h q
theorem r64 (n:Int):0<=IntKind.wrap .u64 n/\IntKind.wrap .u64 n<18446744073709551616:=by rw[IntKind.wrap_u64];omega
theorem r32 (n:Int):0<=IntKind.wrap .u32 n/\IntKind.wrap .u32 n<4294967296:=by rw[IntKind.wrap_u32];omega
theorem r8 (n:Int):0<=IntKind.wrap .u8 n/\IntKind.wrap .u8 n<256:=by rw[IntKind.wrap_u8];omega
theorem b64 (o:BinOp) (a b:Int):0<=bits o .u64 a b/\bits o .u64 a b<18446744073709551616:=r64 _
theorem b32 (o:BinOp) (a b:Int):0<=bits o .u32 a b/\bits o .u32 a b<4294967296:=r32 _
theorem b8 (o:BinOp) (a b:Int):0<=bits o .u8 a b/\bits o .u8 a b<256:=r8 _
theorem wraps_u64 (n:Int) (q:0<=n) (z:n<2 ^ 64):IntKind.u64.wrap n=n:=wu64 q z
theorem or_lo (k:IntKind) (j:Nat) (D:j<=k.bits) (F:∀n:Int,0<=n->n<2 ^ j->k.wrap n=n) (i:Nat) (I:i<=j)
  (x y:Int) (C:0<=y) (J:y % 2 ^ i=0) (z:y<2 ^ j) (A:0<=x) (G:x<2 ^ i):bits .or k x y=x+y:=by
 have q:x<2 ^ j:=Int.lt_of_lt_of_le G (by exact_mod_cast Nat.pow_le_pow_right (by decide) I);have h:=bits_join k j D F i y x C J z A G q;obtain⟨a,rfl⟩:=Int.eq_ofNat_of_zero_le A;obtain⟨b,rfl⟩:=Int.eq_ofNat_of_zero_le C;rw[(bits_nat k j D F b a (by exact_mod_cast z) (by exact_mod_cast q)).2]at h;rw[(bits_nat k j D F a b (by exact_mod_cast q) (by exact_mod_cast z)).2,Nat.or_comm,h,Int.add_comm]
theorem ZDT {i n:Nat} (h:i<n):decide (i<n)=true:=decide_eq_true h
theorem ZCE {i n:Nat} (h:n<=i):decide (i<n)=false:=decide_eq_false (by omega)
theorem sZ:1000000000<=lim:=by decide
theorem qL:1000000000<=maxLen:=by decide
theorem Zea (a b k:Nat) (h:a+b<=1000000) (z:k<=1000):(decide ((a+b)*k<=lim)&&decide (a+b<=maxLen))=true:=by
 have q:(a+b)*k<=1000000000:=Nat.le_trans (Nat.mul_le_mul h z) (by decide);exact Bool.and_eq_true_iff.mpr ⟨decide_eq_true (Nat.le_trans q sZ),decide_eq_true (Nat.le_trans (Nat.le_trans h (by decide)) qL)⟩
theorem ZBI (a k:Nat) (h:a<=1000000) (q:k<=1000):(decide (a*k<=lim)&&decide (a<=maxLen))=true:=by
 simpa using Zea 0 a k (by simpa using h) q
theorem SL:(∀n:Nat,(0:Int)<=(n:Int))/\(∀n m:Nat,((n:Int)<(m:Int))↔n<m)/\(∀n:Nat,Int.toNat (n:Int)=n) /\
  (∀(α:Type) (l:List α) (i:Nat) (h:i<l.length),l[i]? = some l[i])/\(∀(α:Type) [BEq α] [ReflBEq α] (a:α),(a==a)=true) /\
  (∀a:Bool,(a&&true)=a)/\(∀a:Bool,(true&&a)=a)/\(∀(α:Type) (a b:List α),(a++b).length=a.length+b.length)/\(∀(α:Type) (a:List α),[]++a=a)/\(∀n:Nat,0+n=n) /\
  (∀a b k:Nat,a+b<=1000000->k<=1000->(decide ((a+b)*k<=lim)&&decide (a+b<=maxLen))=true)/\(∀a k:Nat,a<=1000000->k<=1000->(decide (a*k<=lim)&&decide (a<=maxLen))=true) /\
  (∀i:Nat,i<4611686018427387904->AV ((i:Int)+1)=((i+1:Nat):Int))/\(∀i n:Nat,i<n->decide (i<n)=true)/\(∀i n:Nat,n<=i->decide (i<n)=false):=
 ⟨Int.natCast_nonneg,@Int.ofNat_lt,Int.toNat_natCast,fun _ _ _ h=>List.getElem?_eq_getElem h,fun _ _ _ a=>beq_self_eq_true a,Bool.and_true,Bool.true_and,fun _ _ _=>List.length_append,fun _ a=>List.nil_append a,Nat.zero_add,Zea,ZBI,SK,fun _ _ h=>ZDT h,fun _ _ h=>ZCE h⟩
theorem SM:(∀(α q:Type) (a:α) (f:α->Option q),(some a).bind f=f a)/\(decide True=true)/\(decide False=false)/\(∀(α:Type) (a b:α),cond true a b=a)/\(∀(α:Type) (a b:α),cond false a b=b) /\
  (∀p:Prop,(True/\p)=p)/\(∀p:Prop,(p/\True)=p)/\(∀α:Type,([]:List α).length=0)/\(∀(α:Type) (a:α) (l:List α),(a::l).length=l.length+1)/\((!true)=false)/\((!false)=true):=
 ⟨fun _ _ _ _=>rfl,rfl,rfl,fun _ _ _=>rfl,fun _ _ _=>rfl,true_and,and_true,fun _=>rfl,fun _ _ _=>rfl,rfl,rfl⟩
theorem ZyM {S R α:Type} (F:S->Int->Option R) (xs:List α) (step:S->α->S) (q:S->Option R) (Inv:Nat->S->Prop)
  (A:∀(i:Nat) s (h:i<xs.length),Inv i s->F s i=F (step s xs[i]) ((i+1:Nat):Int)/\Inv (i+1) (step s xs[i]))
  (G:∀s,Inv xs.length s->F s (xs.length:Int)=q s) (s:S) (N:Inv 0 s):F s 0=q (xs.foldl step s)/\Inv xs.length (xs.foldl step s):=by
 have key:∀(ys D:List α) (s:S),xs=ys++D->Inv ys.length s->F s (ys.length:Int)=q (D.foldl step s)/\Inv xs.length (D.foldl step s):=by
  intro ys D;induction D generalizing ys with
  | nil=>
   intro s C I;rw[List.append_nil]at C;subst C;exact⟨G s I,I⟩
  | cons z D Y=>
   intro s C I;have O:ys.length<xs.length:=by rw[C];simp
   have Q:xs[ys.length]=z:=by simp[C]
   obtain⟨J,M⟩:=A ys.length s O I;rw[Q]at J M;rw[J];have:=Y (ys++[z]) (step s z) (by simp[C]) (by simpa using M);simpa using this
 exact key [] xs s rfl N
theorem ZyU {α q:Type} (f:α->List q) (xs:List α) (s:List q):xs.foldl (fun s x=>s++f x) s=s++xs.flatMap f:=by
 induction xs generalizing s with
 | nil=>simp
 | cons x xs z=>simp[List.foldl_cons,z,List.append_assoc]
def Bytes (xs:List Int):Prop:=∀x∈xs,0<=x/\x<256
theorem Bytes.nil:Bytes []:=fun _ h=>by cases h
theorem Bytes.cons {x:Int} {xs:List Int} (h:0<=x/\x<256) (q:Bytes xs):Bytes (x::xs):=fun y hy=>by
 rcases List.mem_cons.1 hy with rfl|hy
 ·exact h
 ·exact q y hy
theorem Bytes.app {xs ys:List Int} (q:Bytes xs) (z:Bytes ys):Bytes (xs++ys):=fun y h=>(List.mem_append.1 h).elim (q y) (z y)
theorem Bytes.sub {xs ys:List Int} (q:Bytes xs) (h:∀y∈ys,y∈xs):Bytes ys:=fun y z=>q y (h y z)
theorem Bytes.take {xs:List Int} (q:Bytes xs) (n:Nat):Bytes (xs.take n):=q.sub fun _ h=>List.mem_of_mem_take h
theorem Bytes.drop {xs:List Int} (q:Bytes xs) (n:Nat):Bytes (xs.drop n):=q.sub fun _ h=>List.mem_of_mem_drop h
theorem Bytes.get {xs:List Int} (q:Bytes xs) (i:Nat) (h:i<xs.length):0<=xs[i]/\xs[i]<256:=q _ (List.getElem_mem h)
theorem Bytes.flat {α:Type} (f:α->List Int) (l:List α) (h:∀x∈l,Bytes (f x)):Bytes (l.flatMap f):=fun y q=>by
 obtain⟨x,z,q⟩:=List.mem_flatMap.1 q;exact h x z y q
def val:List Int->Int
 | []=>0
 | b::r=>b+256*val r
theorem Ze2 {xs:List Int} (h:Bytes xs):0<=val xs/\val xs<256 ^ xs.length:=by
 induction xs with
 | nil=>simp[val]
 | cons x xs z=>
  have A:=z fun y q=>h y (List.mem_cons_of_mem _ q);have C:=h x List.mem_cons_self;simp only[val,List.length_cons];rw[Int.pow_succ];omega
theorem val_append (xs:List Int) (ys:List Int):val (xs++ys)=val xs+256 ^ xs.length*val ys:=by
 induction xs with
 | nil=>simp[val]
 | cons x xs q=>
  simp only[List.cons_append,val,q,List.length_cons];rw[Int.pow_succ,Int.mul_add,<- Int.mul_assoc,Int.mul_comm 256 (256 ^ xs.length),Int.add_assoc]
theorem ZwI {n:Nat} (h:n<=8):(256:Int) ^ n<=18446744073709551616:=
 (by decide:∀n:Fin 9,(256:Int) ^ n.1<=18446744073709551616) ⟨n,by omega⟩
theorem Z3J {xs:List Int} (h:Bytes xs) (z:xs.length<=8):0<=val xs/\val xs<18446744073709551616:=by
 have q:=Ze2 h;exact⟨q.1,Int.lt_of_lt_of_le q.2 (ZwI z)⟩
def num:Nat->Int->List Int
 | 0,_=>[]
 | n+1,v=>(v % 256)::num n (v / 256)
theorem Sj (n:Nat) (v:Int):(num n v).length=n:=by
 induction n generalizing v with
 | zero=>rfl
 | succ n q=>simp[num,q]
theorem ZyO (n:Nat) (v:Int):Bytes (num n v):=by
 induction n generalizing v with
 | zero=>exact Bytes.nil
 | succ n q=>exact Bytes.cons (by omega) (q _)
theorem ZcT (n:Nat) (v:Int):num (n+1) v=num n v++[v / 256 ^ n % 256]:=by
 induction n generalizing v with
 | zero=>simp[num]
 | succ n q=>
  have e:num (n+2) v=(v % 256)::num (n+1) (v / 256):=rfl;rw[e,q];simp only[num,List.cons_append];rw[Int.pow_succ,Int.mul_comm,<- Int.ediv_ediv_of_nonneg (by decide)]
theorem via {α:Type} {a b:α} (m:α) (q:a=m) (z:b=m):a=b:=q.trans z.symm
theorem and32 (x:Int) (h:0<=x) (q : x<18446744073709551616):bits .and .u64 x (IntKind.wrap .u64 ((IntKind.wrap .u64 ((1:Int)*2 ^ (min (Int.toNat 32) (IntKind.bits .u64)))) - (1:Int)))=x % 4294967296:=by
 have:=bits_mask .u64 64 (by decide) wraps_u64 32 (by decide) x h q;exact this
theorem Z7B (x:Int) (h:0<=x) (q : x<18446744073709551616):QS x 32=some (x % 4294967296):=(BA _ _).trans (by
 simp only[Z0O,DN];rw[show decide ((32:Int)<=0)=false from rfl,show decide ((32:Int)>=64)=false from rfl,show decide ((0:Int)<=32)=true from rfl];simp only[cond_false,cond_true];rw[and32 x h q])
theorem or0 (x:Int) (h:0<=x) (q : x<18446744073709551616):bits .or .u64 x 0=x:=by
 obtain⟨a,rfl⟩:=Int.eq_ofNat_of_zero_le h;have:=(bits_nat .u64 64 (by decide) wraps_u64 a 0 (show a<18446744073709551616 by omega) (by decide)).2;rw[Nat.or_zero]at this;exact this
def rotl (k:Int) (p q:Nat):Int:=bits .or .u64 (IntKind.wrap .u64 (k*2 ^ p)) (Int.fdiv k (2 ^ q))
theorem rotl0 (k:Int) (h:0<=k) (q : k<18446744073709551616):rotl k 0 64=k:=by
 unfold rotl;rw[Int.pow_zero,Int.mul_one,wu64 h q,Int.fdiv_eq_ediv_of_nonneg _ (by decide),show (2:Int) ^ 64=18446744073709551616 from rfl,Int.ediv_eq_zero_of_lt h q,or0 k h q]
theorem ZEf (k:Int) (h:0<=k) (F : k<18446744073709551616) (i:Int) (O:0<=i) (Q:i<8) :
  ∃lo,(0<=lo/\lo<4294967296)/\Ur k i=some lo/\∃x,Tm k (Int.tmod (AV ((11:Int)*(Int.tmod i (64:Int)))) (64:Int))=some x/\∃y,QS x 32=some y/\IntKind.wrap .u32 y=lo:=by
 have key:∀x,0<=x->x<18446744073709551616->AY aZ (.b1 x)=some (x % 4294967296):=fun x C A =>(BA _ _).trans (by
  simp only[aZ,DN];rw[Int.tmod_eq_emod_of_nonneg C,Vq (by omega) (by omega)])
 have M:i=0\/i=1\/i=2\/i=3\/i=4\/i=5\/i=6\/i=7:=by omega
 have low:∀x,0<=x->x<18446744073709551616->∃y,QS x 32=some y/\IntKind.wrap .u32 y=x % 4294967296:=fun x C A =>⟨_,Z7B x C A,Vq (by omega) (by omega)⟩;have z:∀p q:Nat,∀n:Int,Tm k n=some (rotl k p q)->Ur k i=AY aZ (.b1 (rotl k p q))->Int.tmod (AV ((11:Int)*(Int.tmod i (64:Int)))) (64:Int)=n ->
   ∃lo,(0<=lo/\lo<4294967296)/\Ur k i=some lo/\∃x,Tm k (Int.tmod (AV ((11:Int)*(Int.tmod i (64:Int)))) (64:Int))=some x/\∃y,QS x 32=some y/\IntKind.wrap .u32 y=lo:=fun p q n G I J=>by
  have hb:0<=rotl k p q/\rotl k p q<18446744073709551616:=b64 _ _ _;obtain⟨y,N,D⟩:=low _ hb.1 hb.2;exact⟨rotl k p q % 4294967296,by omega,by rw[I,key _ hb.1 hb.2],_,by rw[J];exact G,y,N,D⟩
 rcases M with rfl|rfl|rfl|rfl|rfl|rfl|rfl|rfl
 ·refine z 0 64 0 ((BA _ _).trans rfl) ?_ rfl;rw[rotl0 k h F];exact(BA _ _).trans rfl
 ·exact z 11 53 11 ((BA _ _).trans rfl) ((BA _ _).trans rfl) rfl
 ·exact z 22 42 22 ((BA _ _).trans rfl) ((BA _ _).trans rfl) rfl
 ·exact z 33 31 33 ((BA _ _).trans rfl) ((BA _ _).trans rfl) rfl
 ·exact z 44 20 44 ((BA _ _).trans rfl) ((BA _ _).trans rfl) rfl
 ·exact z 55 9 55 ((BA _ _).trans rfl) ((BA _ _).trans rfl) rfl
 ·exact z 2 62 2 ((BA _ _).trans rfl) ((BA _ _).trans rfl) rfl
 ·exact z 13 51 13 ((BA _ _).trans rfl) ((BA _ _).trans rfl) rfl
theorem turn7 (x:Int):QB x 7=Nu x 7:=by
 rw[show QB x 7=_ from BA _ _,show Nu x 7=_ from BA _ _];rfl
theorem ZDt (x:Int):QB x 16=Nu x 16:=by
 rw[show QB x 16=_ from BA _ _,show Nu x 16=_ from BA _ _];rfl
theorem ZCx (k:Int) (h:0<=k) (z : k<18446744073709551616) (i:Int) (A:0<=i) (I:i<8) (a:Int):nC k i a=XJ k i a:=by
 obtain⟨q,J,C,x,D,y,F,G⟩:=ZEf k h z i A I;refine via ((Nu (IntKind.wrap .u32 (a+q)) 7).bind fun M=>(Nu q 16).bind fun N=>some (bits .xor .u32 (IntKind.wrap .u32 (M*(2654435761:Int))) N)) ((BA _ _).trans ?_) ((BA _ _).trans ?_)
 ·simp only[Z1H,DN,C,Option.bind_some];rfl
 ·simp only[Z0u,DN,D,F,G,Option.bind_some,turn7,ZDt];rfl
theorem ZE9 (k:Int) (h:0<=k) (J : k<18446744073709551616):∀(n:Nat) (i l r:Int),0<=i->8 - i<=n->0<=l->l<4294967296->0<=r->r<4294967296->AY SH (.b1 k l r i)=AY Jt (.b1 k i ⟨l,r⟩):=by
 have D:∀i l r:Int,¬i<8->0<=l->l<4294967296->0<=r->r<4294967296->AY SH (.b1 k l r i)=AY Jt (.b1 k i ⟨l,r⟩):=fun i l r A F z C q =>by
  refine via (some (l*4294967296+r)) ((BA _ _).trans ?_) ((BA _ _).trans ?_)
  ·simp only[SH,DN];rw[decide_eq_false A,wu64 (n:=l) (by omega) (by omega),wu64 (n:=r) (by omega) (by omega),wu64 (n:=l*4294967296) (by omega) (by omega),wu64 (by omega) (by omega)];rfl
  ·simp only[Jt,DN];rw[decide_eq_false A];simp only[cond_false];rw[show jJ ⟨l,r⟩=some (l*4294967296+r) from(BA _ _).trans (by
    simp only[xK,DN];rw[wu64 (n:=l) (by omega) (by omega),wu64 (n:=r) (by omega) (by omega),show (2:Int) ^ (32:Nat)=4294967296 from rfl,wu64 (n:=l*4294967296) (by omega) (by omega)];rw[bits_join .u64 64 (by decide) wraps_u64 32 (l*4294967296) r (by omega) (by omega) (by omega) C (by omega) (by omega)])]
   rfl
 intro n;induction n with
 | zero=>intro i l r G M F z C q;exact D i l r (by omega) F z C q
 | succ n N=>
  intro i l r G M F z C q
  by_cases A:i<8
  ·refine via ((XJ k i r).bind fun x=>AY Jt (.b1 k (AV (i+1)) ⟨r,bits .xor .u32 l x⟩)) ((BA _ _).trans ?_) ((BA _ _).trans ?_)
   ·simp only[SH,DN];rw[decide_eq_true A,ZCx k h J i G A];simp only[cond_true];congr 1;funext x;have I:=b32 .xor l x;rw[OQ (by omega) (by omega)];exact N (i+1) r (bits .xor .u32 l x) (by omega) (by omega) C q I.1 I.2
   ·simp only[Jt,DN];rw[decide_eq_true A];rfl
  ·exact D i l r A F z C q
theorem e_Mix (k x:Int) (h:0<=k) (A : k<18446744073709551616) (q:0<=x) (z : x<18446744073709551616):QX k x=Np k x:=by
 refine via (AY Jt (.b1 k 0 ⟨x / 4294967296,x % 4294967296⟩)) ((BA _ _).trans ?_) ((BA _ _).trans ?_)
 ·simp only[SH,DN];rw[Int.tdiv_eq_ediv_of_nonneg q,Int.tmod_eq_emod_of_nonneg q,wu64 (n:=x / 4294967296) (by omega) (by omega),Vq (n:=x / 4294967296) (by omega) (by omega),Vq (n:=x % 4294967296) (by omega) (by omega)];exact ZE9 k h A 8 0 _ _ (by omega) (by omega) (by omega) (by omega) (by omega) (by omega)
 ·simp only[Jt,DN];rw[show lG x=some ⟨x / 4294967296,x % 4294967296⟩ from(BA _ _).trans (by
   simp only[Z0p,DN,Z7B x q z,Option.bind_some];rw[Int.fdiv_eq_ediv_of_nonneg _ (by decide),show (2:Int) ^ (32:Nat)=4294967296 from rfl,Vq (n:=x / 4294967296) (by omega) (by omega),Vq (n:=x % 4294967296) (by omega) (by omega)])]
  rfl
noncomputable def Vo (k x:Int):Int:=(Np k x).getD 0
theorem Z4a (k x:Int):Np k x=some (Vo k x):=by
 obtain⟨r,q⟩:=ZeC k x;rw[Vo,q];rfl
def JD (k:Int):Prop:=0<=k/\k<18446744073709551616
theorem Zcv (k x:Int) (h:JD k) (q:JD x):QX k x=some (Vo k x):=(e_Mix k x h.1 h.2 q.1 q.2).trans (Z4a k x)
theorem rD {R α C:Type} (F:List C->Int->Option R) (xs:List α) (f:α->List C) (q:List C->Option R) (B:Nat)
  (z:∀(i:Nat) s (h:i<xs.length),s.length+(f xs[i]).length<=B->F s i=F (s++f xs[i]) ((i+1:Nat):Int))
  (A:∀s,F s (xs.length:Int)=q s) (s:List C) (D:s.length+(xs.flatMap f).length<=B):F s 0=q (s++xs.flatMap f):=by
 have key:=ZyM F xs (fun s x=>s++f x) q (fun i s=>s.length+((xs.drop i).flatMap f).length<=B)
  (fun i s h G=>by
   simp only[List.drop_eq_getElem_cons h,List.flatMap_cons,List.length_append]at G;exact⟨z i s h (by omega),by simp only[List.length_append];omega⟩)
  (fun s _=>A s) s (by simpa using D)
 rw[key.1,ZyU]
theorem ZCJ (ls:List (List Int)) (h:ls.flatten.length<=100000) (A:ls.length<=100000):Z0C ls=some ls.flatten:=(BA _ _).trans (by
 simp only[XU,DN,SL,SM];have:=rD (fun s i=>AY XU (.b1 s ls ls.length i)) ls id some 100000 (fun i s q z=>(BA _ _).trans (by
   simp only[id]at z;simp(disch:=omega) only[XU,q,id,DN,SL,SM]))
  (fun s=>(BA _ _).trans (by simp only[XU,Int.lt_irrefl,DN,SL,SM])) [] (by simpa[List.flatMap_id]using h)
 simpa[List.flatMap_id]using this)
theorem ZBl (n:Int) (h:1<=n) (q : n<=8):Z08 n=some true:=(BA _ _).trans (by
 simp only[Z7y,DN,decide_eq_true (show n>=1 from h),decide_eq_true q,cond_true])
theorem vH (j:Nat):(2:Int) ^ (8*j)=256 ^ j:=by rw[Int.pow_mul];rfl
theorem sh8 (v:Int) (j:Nat) (q:j<=8):Int.fdiv v (2 ^ (min (Int.toNat (AV ((8:Int)*(j:Int)))) (IntKind.bits .u64)))=v / 256 ^ j:=by
 rw[OQ (by omega) (by omega),show Int.toNat (8*(j:Int))=8*j by omega,show min (8*j) (IntKind.bits .u64)=8*j from Nat.min_eq_left (by show 8*j<=64;omega),vH,Int.fdiv_eq_ediv_of_nonneg _ (Int.le_of_lt (by exact_mod_cast Nat.pow_pos (by decide)))]
theorem put3 (fs:List Eh) (s:List Int) (n:Int) (i m:Nat) (x:Eh) (hm:m<=8) (G:s.length<=1000) (F:i<=1000):∀(d j:Nat),j+d=m ->
  AY LC (.b3 (s++num j x.Value) fs n i m j x)=AY LC (.b1 (s++num m x.Value) fs n ((i+1:Nat):Int)):=by
 intro d;induction d with
 | zero=>
  intro j A;obtain rfl:j=m:=by omega
  refine(BA _ _).trans ?_;simp(disch:=omega) only[LC,Int.lt_irrefl,DN,SL,SM]
 | succ d D=>
  intro j A;rw[<- D (j+1) (by omega),ZcT,<- List.append_assoc];refine(BA _ _).trans ?_;have q:j<m:=by omega
  have z:decide (0<=AV (8*(j:Int)))=true:=decide_eq_true (by rw[OQ (by omega) (by omega)];omega);have C:=Sj j x.Value;simp(disch:=omega) only[LC,q,z,sh8,IntKind.wrap_u8,C,DN,SL,SM]
def eH (f:Eh):List Int:=num f.Size.toNat f.Value
theorem v_Put (fs:List Eh) (F:∀f∈fs,1<=f.Size/\f.Size<=8/\0<=f.Value/\f.Value<256 ^ f.Size.toNat) (G:(fs.flatMap eH).length<=1000) (J:fs.length<=1000) :
  lX fs=some (fs.flatMap eH,0):=(BA _ _).trans (by
 simp only[LC,DN,SL,SM];have:=rD (fun s i=>AY LC (.b1 s fs fs.length i)) fs eH (fun s=>some (s,0)) 1000 (fun i s z M=>(BA _ _).trans (by
   obtain⟨C,D,A,I⟩:=F fs[i] (List.getElem_mem z);simp(disch:=omega) only[LC,z,ZBl _ C D,DN,SL,SM];have key:AY LC (.b2 s fs fs.length i fs[i])=AY LC (.b1 (s++eH fs[i]) fs fs.length ((i+1:Nat):Int)):=by
    refine(BA _ _).trans ?_;simp(disch:=omega) only[LC,DN,SL,SM];have:=put3 fs s fs.length i fs[i].Size.toNat fs[i] (by omega) (by omega) (by omega) fs[i].Size.toNat 0 (by omega);simp only[num,List.append_nil]at this;rw[show ((fs[i].Size.toNat:Nat):Int)=fs[i].Size by omega]at this;exact this
   by_cases q:fs[i].Size<8
   ·have e:=sh8 fs[i].Value fs[i].Size.toNat (by omega);rw[show ((fs[i].Size.toNat:Nat):Int)=fs[i].Size by omega,Int.ediv_eq_zero_of_lt A I]at e;rw[e,decide_eq_true q,show decide (0<=AV (8*fs[i].Size))=true from decide_eq_true (by rw[OQ (by omega) (by omega)];omega)];exact key
   ·rw[decide_eq_false q];exact key))
  (fun s=>(BA _ _).trans (by simp only[LC,Int.lt_irrefl,DN,SL,SM])) [] (by simpa using G)
 simpa using this)
theorem Z1h {α:Type} (f:α->List Int) (c:Nat) (xs:List α) (h:∀x∈xs,(f x).length=c):(xs.flatMap f).length=c*xs.length:=by
 induction xs with
 | nil=>simp
 | cons x xs z=>
  rw[List.flatMap_cons,List.length_append,h x List.mem_cons_self,z fun y q=>h y (List.mem_cons_of_mem _ q),List.length_cons,Nat.mul_succ];omega
theorem ZCv (xs:List Int) (z:∀x∈xs,JD x) (F:xs.length<=100):Z1z xs=some (xs.flatMap (num 8)):=(BA _ _).trans (by
 simp only[Xr,DN,SL,SM];have:=rD (fun s i=>AY Xr (.b1 s xs xs.length i)) xs (fun x=>[(⟨8,x⟩:Eh)]) (fun s=>(lX s).bind fun r=>some r.1) 1000 (fun i s C D=>(BA _ _).trans (by
   simp only[List.length_cons,List.length_nil]at D;simp(disch:=omega) only[Xr,C,DN,SL,SM]))
  (fun s=>(BA _ _).trans (by simp only[Xr,Int.lt_irrefl,DN,SL,SM];rfl)) [] (by
   rw[show (xs.flatMap fun x=>[(⟨8,x⟩:Eh)])=xs.map fun x=>(⟨8,x⟩:Eh) from(List.map_eq_flatMap).symm];simp;omega)
 refine this.trans ?_;rw[List.nil_append,show (xs.flatMap fun x=>[(⟨8,x⟩:Eh)])=xs.map fun x=>(⟨8,x⟩:Eh) from(List.map_eq_flatMap).symm];have e:(xs.map fun x=>(⟨8,x⟩:Eh)).flatMap eH=xs.flatMap (num 8):=by rw[List.flatMap_map];rfl
 rw[v_Put _ (fun f A=>by
  obtain⟨x,q,rfl⟩:=List.mem_map.1 A;exact⟨show (1:Int)<=8 by decide,show (8:Int)<=8 by decide,(z x q).1,(z x q).2⟩) (by rw[e,Z1h _ 8 _ fun x _=>Sj 8 x];omega) (by simp;omega),e]
 rfl)
theorem ZDR (m:Nat) (hm:m<=100) (v:Int) (h:JD v):∀(d j:Nat),j+d=m->AY Uz (.b1 m (v / 256 ^ j) (num j v) j)=some ⟨num m v⟩:=by
 intro d;induction d with
 | zero=>
  intro j A;obtain rfl:j=m:=by omega
  refine(BA _ _).trans ?_;simp(disch:=omega) only[Uz,Int.lt_irrefl,DN,SL,SM]
 | succ d D=>
  intro j A;have p:(0:Int)<256 ^ j:=by exact_mod_cast Nat.pow_pos (by decide)
  have q:0<=v / 256 ^ j:=Int.ediv_nonneg h.1 (Int.le_of_lt p);have F : v / 256 ^ j<18446744073709551616:=Int.lt_of_le_of_lt (Int.ediv_le_self _ h.1) h.2;have z:j<m:=by omega
  have C:=Sj j v;rw[<- D (j+1) (by omega),ZcT];refine(BA _ _).trans ?_;simp(disch:=omega) only[Uz,z,C,Int.tmod_eq_emod_of_nonneg q,Int.tdiv_eq_ediv_of_nonneg q,DN,SL,SM];rw[wu8 (by omega) (by omega),wu64 (by omega) (by omega),Int.ediv_ediv_of_nonneg (by omega),Int.pow_succ]
theorem v_Num (m:Nat) (hm:m<=100) (v:Int) (h:JD v):Ox m v=some ⟨num m v⟩:=(BA _ _).trans (by
 simp only[Uz,DN,SL,SM];have:=ZDR m hm v h m 0 (by omega);simpa[num]using this)
theorem ZzO (xs:List Int) (hb:Bytes xs) (F:xs.length<=8):∀n:Nat,n<=xs.length->AY U8 (.b1 xs (val (xs.drop n)) ((n:Int) - 1))=some (val xs):=by
 intro n;induction n with
 | zero=>
  intro _;refine(BA _ _).trans ?_;simp only[U8,DN];rw[show decide (((0:Nat):Int) - 1>=0)=false from rfl];simp
 | succ n q=>
  intro G;have D:val (xs.drop n)=xs[n]+256*val (xs.drop (n+1)):=by rw[List.drop_eq_getElem_cons (show n<xs.length by omega)];rfl
  have z:=Z3J (hb.drop n) (by rw[List.length_drop];omega);have A:=Z3J (hb.drop (n+1)) (by rw[List.length_drop];omega);have C:=hb.get n (by omega);refine(BA _ _).trans ?_;simp only[U8,DN];rw[show ((n+1:Nat):Int) - 1=(n:Int) by omega,show decide ((n:Int)>=0)=true from decide_eq_true (by omega),show decide (0<=(n:Int)/\(n:Int)<(xs.length:Int))=true from decide_eq_true (by omega)];simp only[cond_true,Int.toNat_natCast,List.getElem?_eq_getElem (show n<xs.length by omega),Option.bind_some];rw[wu64 (n:=val (xs.drop (n+1))*256) (by omega) (by omega),wu64 (n:=xs[n]) (by omega) (by omega),wu64 (by omega) (by omega),OQ (by omega) (by omega),show val (xs.drop (n+1))*256+xs[n]=val (xs.drop n) by omega];exact q (by omega)
theorem ZBm (xs:List Int) (hb:Bytes xs) (q:xs.length<=8):nY xs=some (val xs):=(BA _ _).trans (by
 simp only[U8,DN];have:=ZzO xs hb q xs.length (Nat.le_refl _);rw[List.drop_of_length_le (Nat.le_refl _)]at this;rw[OQ (by omega) (by omega)];exact this)
def vP (xs:List Int) (g:Nat):Int:=val ((xs.drop (8*g)).take 8)
theorem Zzf (ys:List Int) (hb:Bytes ys) (F:ys.length<=8):∀m:Nat,m<=ys.length->JQ ys m=val (ys.take m):=by
 intro m;induction m with
 | zero=>intro _;simp[JQ,val]
 | succ m D=>
  intro hm;have C:=hb.get m (by omega);have z:=Ze2 (hb.take m);have A:=Z3J (hb.take (m+1)) (by rw[List.length_take];omega);have e:val (ys.take (m+1))=val (ys.take m)+256 ^ m*ys[m]:=by
   rw[List.take_add_one,List.getElem?_eq_getElem (show m<ys.length by omega),val_append];simp[val,Nat.min_eq_left (show m<=ys.length by omega)]
  rw[List.length_take,Nat.min_eq_left (by omega)]at z;rw[e]at A;have q:0<=256 ^ m*ys[m]:=Int.mul_nonneg (Int.le_of_lt (by exact_mod_cast Nat.pow_pos (by decide))) C.1;rw[e,JQ,D (by omega),List.getElem?_eq_getElem (show m<ys.length by omega),Option.getD_some,vH,Int.mul_comm ys[m],wu64 q (by omega)];refine or_lo .u64 64 (by decide) wraps_u64 (8*m) (by omega) _ _ q ?_ (by show _<(18446744073709551616:Int);omega) z.1 ?_
  ·rw[vH];exact Int.mul_emod_right _ _
  ·rw[vH];exact z.2
theorem Zy7 (xs:List Int) (hb:Bytes xs) (g:Nat):Iy xs g=vP xs g:=by
 unfold Iy vP;rw[Zzf _ ((hb.drop _).take _) (by rw[List.length_take];omega) _ (Nat.le_refl _),List.take_of_length_le (Nat.le_refl _)]
noncomputable def gB (k:Int) (xs:List Int) (m g:Nat) (s:Int):Int:=(List.range' g m).foldl (fun s g=>Vo k (bits .xor .u64 s (vP xs g))) s
noncomputable def uX (k:Int) (xs:List Int):Int:=gB k xs (gN xs) 0 (Vo k xs.length)
theorem v_Tag (k:Int) (xs:List Int) (hb:Bytes xs) (z:xs.length<=100000):qE k xs=some (uX k xs):=by
 have key:∀(l:List Nat) (s:Int),l.foldlM (fun s g=>Np k (bits .xor .u64 s (Iy xs g))) s=some (l.foldl (fun s g=>Vo k (bits .xor .u64 s (vP xs g))) s):=by
  intro l;induction l with
  | nil=>intro s;rfl
  | cons g l q=>
   intro s;rw[List.foldlM_cons,Z4a,Zy7 xs hb];exact q _
 unfold qE Vh uX gB;rw[if_pos (by omega),Z4a,Option.bind_some,key,List.range_eq_range']
theorem Zu7 (k:Int) (D:JD k) (xs:List Int) (hb:Bytes xs) (I:xs.length<=100000):∀(m g:Nat) (s:Int),m+g=gN xs->AY Um (.b1 k xs s ((8*g:Nat):Int))=some (gB k xs m g s):=by
 intro m;induction m with
 | zero=>
  intro g s q;unfold gN at q;refine(BA _ _).trans ?_;simp(disch:=omega) only[Um,DN,SL,SM];rfl
 | succ m G=>
  intro g s q;have C :=q;unfold gN at q;have F:8*g<xs.length:=by omega
  refine(BA _ _).trans ?_;have z:(if (↑xs.length:Int)<(AV (((8*g:Nat):Int)+8)) then (↑xs.length:Int) else (AV (((8*g:Nat):Int)+8)))=((min (8*g+8) xs.length:Nat):Int):=by
   rw[OQ (by omega) (by omega)];split<;>omega
  have A:(xs.drop (8*g)).take (min (8*g+8) xs.length - 8*g)=(xs.drop (8*g)).take 8:=by
   by_cases h:8*g+8<=xs.length
   ·rw[Nat.min_eq_left h,show 8*g+8 - 8*g=8 by omega]
   ·rw[List.take_of_length_le (by rw[List.length_drop];omega),List.take_of_length_le (by rw[List.length_drop];omega)]
  simp only[Um,DN,z];rw[decide_eq_true (show ((8*g:Nat):Int)<(xs.length:Int) by omega),decide_eq_true (show (0:Int)<=((min (8*g+8) xs.length:Nat):Int)/\((min (8*g+8) xs.length:Nat):Int)<=(xs.length:Int) by omega)];simp only[Int.toNat_natCast];rw[decide_eq_true (show (0:Int)<=((8*g:Nat):Int)/\((8*g:Nat):Int)<=((min (8*g+8) xs.length:Nat):Int) by omega),A,ZBm _ ((hb.drop _).take _) (by rw[List.length_take];omega)];simp only[cond_true,Option.bind_some];rw[Zcv k _ D (b64 _ _ _),Option.bind_some,OQ (by omega) (by omega),show ((8*g:Nat):Int)+8=((8*(g+1):Nat):Int) by omega,G (g+1) _ (by omega)];rw[gB,gB,List.range'_succ];rfl
theorem ZxF (k:Int) (q:JD k) (xs:List Int) (hb:Bytes xs) (z:xs.length<=100000):SE k xs=some (uX k xs):=(BA _ _).trans (by
 simp only[Um,DN];rw[wu64 (by omega) (by omega),Zcv k _ q ⟨by omega,by omega⟩,Option.bind_some];exact Zu7 k q xs hb z (gN xs) 0 _ (by omega))
def Ik (n z q:Int):Int:=bif decide (n<z) then 5 else bif decide (n>q) then 5 else 0
theorem QW (n z q:Int):QL n z q=some (Ik n z q):=(BA _ _).trans (by
 simp only[Z6P,DN];unfold Ik;cases decide (n<z)<;>cases decide (n>q)<;>rfl)
theorem Zc3 (u:DT):kD u=some ⟨[IntKind.wrap .u64 u.EX,IntKind.wrap .u64 u.EW,IntKind.wrap .u64 u.Dp,IntKind.wrap .u64 u.Dq,IntKind.wrap .u64 u.Ei]⟩:=(BA _ _).trans rfl
theorem Zbm (a b c d e:Int) (r:List Int):jW (a::b::c::d::e::r)=some ⟨AV a,AV b,AV c,AV d,AV e⟩:=(BA _ _).trans (by
 have h:∀j:Int,0<=j->j<5->decide (0<=j/\j<(((a::b::c::d::e::r).length:Nat):Int))=true:=fun j q z=>decide_eq_true ⟨q,by simp only[List.length_cons];omega⟩;simp only[Z6C,DN,h 0 (by decide) (by decide),h 1 (by decide) (by decide),h 2 (by decide) (by decide),h 3 (by decide) (by decide),h 4 (by decide) (by decide),cond_true];rfl)
theorem L9 (c:AL):UJ c=some []:=(BA _ _).trans (rfl)
theorem Kw (c:AL):jE c=some [c.DK]:=(BA _ _).trans (rfl)
theorem Jy (c:AL):jT c=some [IntKind.wrap .u64 c.Length]:=(BA _ _).trans (rfl)
theorem KD (c:AL):Zy c=some [IntKind.wrap .u64 c.BG.EX,IntKind.wrap .u64 c.BG.EW,IntKind.wrap .u64 c.BG.Dp,IntKind.wrap .u64 c.BG.Dq,IntKind.wrap .u64 c.BG.Ei,IntKind.wrap .u64 c.CP]:=(BA _ _).trans (by
 simp only[Z6r,DN,Zc3,Option.bind_some];rfl)
theorem KC (c:AL):Z7 c=some [c.Map,IntKind.wrap .u64 c.CP]:=(BA _ _).trans (rfl)
theorem KJ (c:AL):Z9 c=some [IntKind.wrap .u64 c.BG.EX,IntKind.wrap .u64 c.BG.EW,IntKind.wrap .u64 c.BG.Dp,IntKind.wrap .u64 c.BG.Dq,IntKind.wrap .u64 c.BG.Ei]:=(BA _ _).trans (by
 simp only[Z6w,DN,Zc3,Option.bind_some];rfl)
theorem Jv (c:AL):yV c=some [IntKind.wrap .u64 c.Bq]:=(BA _ _).trans (rfl)
theorem LV (c:AL):xY c=some [c.CE,c.Mark]:=(BA _ _).trans (rfl)
theorem LU (c:AL):yB c=some [c.CE]:=(BA _ _).trans (rfl)
theorem LQ (c:AL):xR c=some [IntKind.wrap .u64 c.Dx]:=(BA _ _).trans (rfl)
theorem LP (c:AL):yE c=some [IntKind.wrap .u64 c.Version]:=(BA _ _).trans (rfl)
theorem LD (c:AL):yJ c=some [IntKind.wrap .u64 c.Bq,IntKind.wrap .u64 c.Dx]:=(BA _ _).trans (rfl)
theorem L8 (l:List Int) (u:AL):UK l u=some ⟨u⟩:=(BA _ _).trans rfl
theorem Ky (a:Int) (u:AL):jA [a] u=some ⟨{ u with DK:=a }⟩:=(BA _ _).trans (rfl)
theorem KA (a:Int) (u:AL):jK [a] u=some ⟨{ u with Length:=AV a }⟩:=(BA _ _).trans (rfl)
theorem KG (a b c d e f:Int) (u:AL):Zb [a,b,c,d,e,f] u=some ⟨{ u with BG:=⟨AV a,AV b,AV c,AV d,AV e⟩,CP:=IntKind.wrap .u16 f }⟩:=(BA _ _).trans (by
 simp only[Z6E,DN,Zbm,Option.bind_some]
 all_goals rfl)
theorem KF (a b:Int) (u:AL):Zq [a,b] u=some ⟨{ u with Map:=a,CP:=IntKind.wrap .u16 b }⟩:=(BA _ _).trans (rfl)
theorem KI (a b c d e:Int) (u:AL):Zv [a,b,c,d,e] u=some ⟨{ u with BG:=⟨AV a,AV b,AV c,AV d,AV e⟩ }⟩:=(BA _ _).trans (by
 simp only[Z6u,DN,Zbm,Option.bind_some]
 all_goals rfl)
theorem Js (a:Int) (u:AL):yY [a] u=some ⟨{ u with Bq:=AV a }⟩:=(BA _ _).trans (rfl)
theorem LX (a b:Int) (u:AL):zJ [a,b] u=some ⟨{ u with CE:=a,Mark:=b }⟩:=(BA _ _).trans (rfl)
theorem LM (a:Int) (u:AL):yC [a] u=some ⟨{ u with CE:=a }⟩:=(BA _ _).trans (rfl)
theorem LK (a:Int) (u:AL):yK [a] u=some ⟨{ u with Dx:=AV a }⟩:=(BA _ _).trans (rfl)
theorem LY (a:Int) (u:AL):yD [a] u=some ⟨{ u with Version:=AV a }⟩:=(BA _ _).trans (rfl)
theorem LW (a b:Int) (u:AL):yT [a,b] u=some ⟨{ u with Bq:=AV a,Dx:=AV b }⟩:=(BA _ _).trans (rfl)
theorem Ls (c:AL):Nc c=some (0):=(BA _ _).trans (by
 simp only[Z7r,DN,QW,QH,Option.bind_some])
theorem Jw (c:AL):jS c=some (Ik c.Length 27 251):=(BA _ _).trans (by
 simp only[Z6l,DN,QW,QH,Option.bind_some])
theorem KH (c:AL):Zr c=some (IX c.BG):=(BA _ _).trans (by
 simp only[Z6F,DN,QW,QH,Option.bind_some])
theorem Zat (c:AL) (h:0<=c.Map/\c.Map<18446744073709551616):Zj c=some (JF c.Map):=(BA _ _).trans (by
 have:=Zlt c.Map.toNat (by omega);rw[Int.toNat_of_nonneg h.1]at this;simp only[Z6s,DN,this,Option.bind_some])
theorem KE (c:AL):Zg c=some (IX c.BG):=(BA _ _).trans (by
 simp only[Z6t,DN,QW,QH,Option.bind_some])
theorem Ju (c:AL):yR c=some (Ik c.Bq 0 255):=(BA _ _).trans (by
 simp only[Z6b,DN,QW,QH,Option.bind_some])
theorem LG (c:AL):zO c=some (Ik c.Dx 0 255):=(BA _ _).trans (by
 simp only[Z63,DN,QW,QH,Option.bind_some])
theorem LH (c:AL):xQ c=some (Ik c.Version 0 255):=(BA _ _).trans (by
 simp only[Z65,DN,QW,QH,Option.bind_some])
theorem LJ (c:AL):yQ c=some ((if Ik c.Dx 0 255>Ik c.Bq 0 255 then Ik c.Dx 0 255 else Ik c.Bq 0 255)):=(BA _ _).trans (by
 simp only[Z6h,DN,QW,QH,Option.bind_some])
theorem ww {x:Int} (h:0<=x) (q : x<9223372036854775808):AV (IntKind.wrap .u64 x)=x:=by rw[wu64 h (by omega),OQ (by omega) (by omega)]
theorem wi16 {x:Int} (h:R16 x):IntKind.wrap .u16 (IntKind.wrap .u64 x)=x:=by rw[wu64 h.1 (by have:=h.2;omega),wu16 h.1 h.2]
theorem ZeA {n z q:Int} (h:z<=n) (A : n<=q):Ik n z q=0:=by unfold Ik;rw[decide_eq_false (by omega),decide_eq_false (by omega)];rfl
theorem gQ {n:Int} (h:R8 n):Ik n 0 255=0:=ZeA h.1 (by have:=h.2;omega)
theorem I9 (c:AL):Gi c c=true:=by simp[Gi]
theorem Zet {u:DT} (h:IX u=0):1<=u.EX/\u.EX<=8/\0<=u.EW/\u.EW<=3200/\6<=u.Dp/\u.Dp<=3200/\0<=u.Dq/\u.Dq<=499/\10<=u.Ei/\u.Ei<=3200:=by
 unfold IX at h
 by_cases hb:(!(inB u.EX 1 8&&inB u.EW 0 3200&&inB u.Dp 6 3200&&inB u.Dq 0 499&&inB u.Ei 10 3200))=true
 ·rw[if_pos hb]at h;cases h
 ·simp[inB]at hb;omega
theorem ZlC {c:AL} (h:CV c):XB c=some 0:=by
 have z:QP=some ():=rfl;refine(BA _ _).trans ?_;cases h
 case upd u i q h2=>
  have hb:=Zet q;simp only[IL,DN,z,Option.bind_some,Kw,Ky,Ls,KD,Jv,Js,Ju,LV,LX,LU,LM,LQ,LK,LG,KG,LP,LY,LH,LD,LW,LJ,KH,KC,KF,KJ,KI,KE,Jy,KA,Jw,L9,L8,ww (show 0<=u.EX by omega) (by omega),ww (show 0<=u.EW by omega) (by omega),ww (show 0<=u.Dp by omega) (by omega),ww (show 0<=u.Dq by omega) (by omega),ww (show 0<=u.Ei by omega) (by omega),wi16 h2,I9,Int.reduceBEq,Int.reduceEq,beq_self_eq_true,Bool.and_self,Bool.not_true,cond_true,cond_false, *]
 case map m i q h2 h3=>
  simp only[IL,DN,z,Option.bind_some,Kw,Ky,Ls,KD,Jv,Js,Ju,LV,LX,LU,LM,LQ,LK,LG,KG,LP,LY,LH,LD,LW,LJ,KH,KC,KF,KJ,KI,KE,Jy,KA,Jw,L9,L8,wi16 h3,Zat (⟨1,Ba,m,i,0,0,0,0,0,0,0⟩:AL) q,I9,Int.reduceBEq,Int.reduceEq,beq_self_eq_true,Bool.and_self,Bool.not_true,cond_true,cond_false, *]
 case term r q=>simp only[IL,DN,z,Option.bind_some,Kw,Ky,Ls,KD,Jv,Js,Ju,LV,LX,LU,LM,LQ,LK,LG,KG,LP,LY,LH,LD,LW,LJ,KH,KC,KF,KJ,KI,KE,Jy,KA,Jw,L9,L8,ww q.1 (Int.lt_trans q.2 (by decide)),gQ q,I9,Int.reduceBEq,Int.reduceEq,beq_self_eq_true,Bool.and_self,Bool.not_true,cond_true,cond_false, *]
 case enc s m q h2=>simp only[IL,DN,z,Option.bind_some,Kw,Ky,Ls,KD,Jv,Js,Ju,LV,LX,LU,LM,LQ,LK,LG,KG,LP,LY,LH,LD,LW,LJ,KH,KC,KF,KJ,KI,KE,Jy,KA,Jw,L9,L8,I9,Int.reduceBEq,Int.reduceEq,beq_self_eq_true,Bool.and_self,Bool.not_true,cond_true,cond_false, *]
 case ans s q=>simp only[IL,DN,z,Option.bind_some,Kw,Ky,Ls,KD,Jv,Js,Ju,LV,LX,LU,LM,LQ,LK,LG,KG,LP,LY,LH,LD,LW,LJ,KH,KC,KF,KJ,KI,KE,Jy,KA,Jw,L9,L8,I9,Int.reduceBEq,Int.reduceEq,beq_self_eq_true,Bool.and_self,Bool.not_true,cond_true,cond_false, *]
 case plain k q=>rcases q with rfl|rfl|rfl|rfl<;>simp only[IL,DN,z,Option.bind_some,Kw,Ky,Ls,KD,Jv,Js,Ju,LV,LX,LU,LM,LQ,LK,LG,KG,LP,LY,LH,LD,LW,LJ,KH,KC,KF,KJ,KI,KE,Jy,KA,Jw,L9,L8,I9,Int.reduceBEq,Int.reduceEq,beq_self_eq_true,Bool.and_self,Bool.not_true,cond_true,cond_false, *]
 case gZ r q=>simp only[IL,DN,z,Option.bind_some,Kw,Ky,Ls,KD,Jv,Js,Ju,LV,LX,LU,LM,LQ,LK,LG,KG,LP,LY,LH,LD,LW,LJ,KH,KC,KF,KJ,KI,KE,Jy,KA,Jw,L9,L8,ww q.1 (Int.lt_trans q.2 (by decide)),gQ q,I9,Int.reduceBEq,Int.reduceEq,beq_self_eq_true,Bool.and_self,Bool.not_true,cond_true,cond_false, *]
 case vF k f q h2=>rcases q with rfl|rfl<;>simp only[IL,DN,z,Option.bind_some,Kw,Ky,Ls,KD,Jv,Js,Ju,LV,LX,LU,LM,LQ,LK,LG,KG,LP,LY,LH,LD,LW,LJ,KH,KC,KF,KJ,KI,KE,Jy,KA,Jw,L9,L8,I9,Int.reduceBEq,Int.reduceEq,beq_self_eq_true,Bool.and_self,Bool.not_true,cond_true,cond_false, *]
 case iC v q=>simp only[IL,DN,z,Option.bind_some,Kw,Ky,Ls,KD,Jv,Js,Ju,LV,LX,LU,LM,LQ,LK,LG,KG,LP,LY,LH,LD,LW,LJ,KH,KC,KF,KJ,KI,KE,Jy,KA,Jw,L9,L8,ww q.1 (Int.lt_trans q.2 (by decide)),gQ q,I9,Int.reduceBEq,Int.reduceEq,beq_self_eq_true,Bool.and_self,Bool.not_true,cond_true,cond_false, *]
 case iK r k q h2=>simp only[IL,DN,z,Option.bind_some,Kw,Ky,Ls,KD,Jv,Js,Ju,LV,LX,LU,LM,LQ,LK,LG,KG,LP,LY,LH,LD,LW,LJ,KH,KC,KF,KJ,KI,KE,Jy,KA,Jw,L9,L8,ww q.1 (Int.lt_trans q.2 (by decide)),gQ q,ww h2.1 (Int.lt_trans h2.2 (by decide)),gQ h2,Int.lt_irrefl,ite_self,I9,Int.reduceBEq,Int.reduceEq,beq_self_eq_true,Bool.and_self,Bool.not_true,cond_true,cond_false, *]
 case par u q=>
  have hb:=Zet q;simp only[IL,DN,z,Option.bind_some,Kw,Ky,Ls,KD,Jv,Js,Ju,LV,LX,LU,LM,LQ,LK,LG,KG,LP,LY,LH,LD,LW,LJ,KH,KC,KF,KJ,KI,KE,Jy,KA,Jw,L9,L8,ww (show 0<=u.EX by omega) (by omega),ww (show 0<=u.EW by omega) (by omega),ww (show 0<=u.Dp by omega) (by omega),ww (show 0<=u.Dq by omega) (by omega),ww (show 0<=u.Ei by omega) (by omega),I9,Int.reduceBEq,Int.reduceEq,beq_self_eq_true,Bool.and_self,Bool.not_true,cond_true,cond_false, *]
 case len k n q h2 h3=>rcases q with rfl|rfl<;>simp only[IL,DN,z,Option.bind_some,Kw,Ky,Ls,KD,Jv,Js,Ju,LV,LX,LU,LM,LQ,LK,LG,KG,LP,LY,LH,LD,LW,LJ,KH,KC,KF,KJ,KI,KE,Jy,KA,Jw,L9,L8,ww (show 0<=n by omega) (by omega),ZeA h2 h3,I9,Int.reduceBEq,Int.reduceEq,beq_self_eq_true,Bool.and_self,Bool.not_true,cond_true,cond_false, *]
theorem Sl (k:Int):(EF k=some ⟨true,true,false,true,false,false,false,false,false,false,false⟩/\k=0)\/(EF k=some ⟨true,false,true,true,false,false,false,false,false,false,false⟩/\k=1) \/
  (EF k=some ⟨true,false,false,false,true,false,false,false,false,false,false⟩/\k=2)\/(EF k=some ⟨true,false,false,false,false,false,true,true,false,false,false⟩/\k=3) \/
  (EF k=some ⟨true,false,false,false,false,false,true,false,false,false,false⟩/\k=4)\/(EF k=some ⟨true,false,false,false,false,false,false,false,false,false,false⟩/\(k=5\/k=6\/k=18\/k=19)) \/
  (EF k=some ⟨true,false,false,false,false,true,false,false,false,false,false⟩/\k=7)\/(EF k=some ⟨true,false,false,false,false,false,false,false,true,false,false⟩/\(k=8\/k=9)) \/
  (EF k=some ⟨true,false,false,false,false,false,false,false,false,true,false⟩/\k=12)\/(EF k=some ⟨true,false,false,false,true,true,false,false,false,false,false⟩/\k=13) \/
  (EF k=some ⟨true,true,false,false,false,false,false,false,false,false,false⟩/\k=15)\/(EF k=some ⟨true,false,false,false,false,false,false,false,false,false,true⟩/\(k=20\/k=21)) \/
  (EF k=some MW/\(k<0\/9<k/\k<12\/k=14\/15<k/\k<18\/21<k)):=by
 have e6:∀z,AY Kz (.b6 z)=some MW:=fun z=>(BA _ _).trans rfl;have e5:∀z,AY Kz (.b5 z)=some ⟨true,false,false,false,false,false,false,false,false,false,true⟩:=fun z=>(BA _ _).trans rfl;have e3:∀z,AY Kz (.b3 z)=some ⟨true,false,false,false,false,false,false,false,true,false,false⟩:=fun z=>(BA _ _).trans rfl;have e1:∀z,AY Kz (.b1 z)=some ⟨true,false,false,false,false,false,false,false,false,false,false⟩:=fun z=>(BA _ _).trans rfl;have N:=fun k z=>BA Kz (.b4 k z);have M:=fun k z=>BA Kz (.b2 k z);have J:EF k=_:=BA Kz (.b0 k);simp only[Kz,DN,e6,e5,e3,e1]at N M J;simp only[N,M]at J;rw[J]
 by_cases O:k=0
 ·subst O;exact .inl ⟨rfl,rfl⟩
 by_cases Q:k=1
 ·subst Q;exact .inr (.inl ⟨rfl,rfl⟩)
 by_cases S:k=2
 ·subst S;exact .inr (.inr (.inl ⟨rfl,rfl⟩))
 by_cases Y:k=3
 ·subst Y;exact .inr (.inr (.inr (.inl ⟨rfl,rfl⟩)))
 by_cases h4:k=4
 ·subst h4;exact .inr (.inr (.inr (.inr (.inl ⟨rfl,rfl⟩))))
 by_cases h5:k=5
 ·subst h5;exact .inr (.inr (.inr (.inr (.inr (.inl ⟨rfl,.inl rfl⟩)))))
 by_cases h6:k=6
 ·subst h6;exact .inr (.inr (.inr (.inr (.inr (.inl ⟨rfl,.inr (.inl rfl)⟩)))))
 by_cases D:k=18
 ·subst D;exact .inr (.inr (.inr (.inr (.inr (.inl ⟨rfl,.inr (.inr (.inl rfl))⟩)))))
 by_cases F:k=19
 ·subst F;exact .inr (.inr (.inr (.inr (.inr (.inl ⟨rfl,.inr (.inr (.inr rfl))⟩)))))
 by_cases h7:k=7
 ·subst h7;exact .inr (.inr (.inr (.inr (.inr (.inr (.inl ⟨rfl,rfl⟩))))))
 by_cases h8:k=8
 ·subst h8;exact .inr (.inr (.inr (.inr (.inr (.inr (.inr (.inl ⟨rfl,.inl rfl⟩)))))))
 by_cases h9:k=9
 ·subst h9;exact .inr (.inr (.inr (.inr (.inr (.inr (.inr (.inl ⟨rfl,.inr rfl⟩)))))))
 by_cases q:k=12
 ·subst q;exact .inr (.inr (.inr (.inr (.inr (.inr (.inr (.inr (.inl ⟨rfl,rfl⟩))))))))
 by_cases A:k=13
 ·subst A;exact .inr (.inr (.inr (.inr (.inr (.inr (.inr (.inr (.inr (.inl ⟨rfl,rfl⟩)))))))))
 by_cases C:k=15
 ·subst C;exact .inr (.inr (.inr (.inr (.inr (.inr (.inr (.inr (.inr (.inr (.inl ⟨rfl,rfl⟩))))))))))
 by_cases G:k=20
 ·subst G;exact .inr (.inr (.inr (.inr (.inr (.inr (.inr (.inr (.inr (.inr (.inr (.inl ⟨rfl,.inl rfl⟩)))))))))))
 by_cases I:k=21
 ·subst I;exact .inr (.inr (.inr (.inr (.inr (.inr (.inr (.inr (.inr (.inr (.inr (.inl ⟨rfl,.inr rfl⟩)))))))))))
 refine .inr (.inr (.inr (.inr (.inr (.inr (.inr (.inr (.inr (.inr (.inr (.inr ⟨?_,by omega⟩)))))))))));rw[beq_false_of_ne O,beq_false_of_ne Q,beq_false_of_ne S,beq_false_of_ne Y,beq_false_of_ne h4,beq_false_of_ne h5,beq_false_of_ne h6,beq_false_of_ne D,beq_false_of_ne F,beq_false_of_ne h7,beq_false_of_ne h8,beq_false_of_ne h9,beq_false_of_ne q,beq_false_of_ne A,beq_false_of_ne C,beq_false_of_ne G,beq_false_of_ne I];rfl
def TK (c:AL) (u:Bl):AL:=⟨0,bif u.BG then Ba else c.BG,bif u.Map then 0 else c.Map,bif u.CP then 0 else c.CP,bif u.Bq then 0 else c.Bq,bif u.Dx then 0 else c.Dx,bif u.CE then 0 else c.CE,bif u.Mark then 0 else c.Mark,bif u.DK then 0 else c.DK,bif u.Version then 0 else c.Version,bif u.Length then 0 else c.Length⟩
theorem ZE1 (c:AL) (u:Bl) (hf:EF c.Kind=some u):o6 c=some (TK c u):=by
 have S:=fun x y=>BA GZ (.b1 x y u);have Y:=fun x y=>BA GZ (.b2 x y u);have e3:=fun x y=>BA GZ (.b3 x y u);have e4:=fun x y=>BA GZ (.b4 x y u);have e5:=fun x y=>BA GZ (.b5 x y u);have e6:=fun x y=>BA GZ (.b6 x y u);have e7:=fun x y=>BA GZ (.b7 x y u);have e8:=fun x y=>BA GZ (.b8 x y u);have e9:=fun x y=>BA GZ (.b9 x y u);refine(BA _ _).trans ?_;simp only[GZ,DN]at S Y e3 e4 e5 e6 e7 e8 e9 ⊢;simp only[hf,Option.bind_some];unfold TK;obtain⟨Q,C,D,F,G,I,J,M,N,O,q⟩:=u;have b1:(bif C then AY GZ (.b1 { c with Kind:=0,BG:=Ba } Fp ⟨Q,C,D,F,G,I,J,M,N,O,q⟩) else AY GZ (.b1 { c with Kind:=0 } Fp ⟨Q,C,D,F,G,I,J,M,N,O,q⟩))=AY GZ (.b1 { c with Kind:=0,BG:=bif C then Ba else c.BG } Fp ⟨Q,C,D,F,G,I,J,M,N,O,q⟩):=by cases C<;>rfl
 refine b1.trans ?_;have z:∀(b:Bool) (x y:AL) (f:AL->Option AL),(bif b then f x else f y)=f (bif b then x else y):=fun b _ _ _=>by cases b<;>rfl
 rw[S,z D _ _ (fun x=>AY GZ (.b2 x _ _)),Y,z F _ _ (fun x=>AY GZ (.b3 x _ _)),e3,z G _ _ (fun x=>AY GZ (.b4 x _ _)),e4,z I _ _ (fun x=>AY GZ (.b5 x _ _)),e5,z J _ _ (fun x=>AY GZ (.b6 x _ _)),e6,z M _ _ (fun x=>AY GZ (.b7 x _ _)),e7,z N _ _ (fun x=>AY GZ (.b8 x _ _)),e8,z O _ _ (fun x=>AY GZ (.b9 x _ _)),e9,z q _ _ some];congr 1;cases D<;>cases F<;>cases G<;>cases I<;>cases J<;>cases M<;>cases N<;>cases O<;>cases q<;>rfl
def I5 (n:Int):Bool:=bif decide (n>=0) then decide (n<=255) else false
theorem ZAf (n:Int):U1 n=some (I5 n):=(BA _ _).trans (by
 simp only[Z0N,DN];unfold I5;cases decide (n>=0)<;>rfl)
theorem Z3A (n:Int):I5 n=true↔R8 n:=by
 unfold I5 R8
 by_cases h:n>=0
 ·rw[decide_eq_true h,cond_true,decide_eq_true_eq];omega
 ·rw[decide_eq_false h,cond_false];exact⟨(fun h=>nomatch h),fun q =>by omega⟩
def zC (x:AL):Bool:=(x.Kind==0)&&((x.BG.EX==0)&&((x.BG.EW==0)&&((x.BG.Dp==0)&&((x.BG.Dq==0)&&((x.BG.Ei==0)&&((x.Map==0)&&((x.CP==0)&&((x.Bq==0)&&((x.Dx==0)&&((x.CE==0)&&((x.Mark==0)&&((x.DK==0)&&((x.Version==0)&&((x.Length==0)&&true))))))))))))))
theorem ZEn (x:AL):zC x=true↔x=Fp:=by
 obtain⟨k,⟨a,b,c,d,e⟩,m,i,r,q,s,mk,f,v,l⟩:=x;simp[zC,Fp,Ba,and_assoc]
def vT (c:AL) (u:Bl):Int:=bif !u.Fg then 12 else bif !zC (TK c u) then 1 else bif u.BG&&(IX c.BG != 0) then IX c.BG else bif u.Map&&(JF c.Map != 0) then JF c.Map else bif !I5 c.Bq then 5 else bif !I5 c.Dx then 5 else bif !I5 c.Version then 5 else bif u.Length&&(decide (c.Length<27)||decide (c.Length>251)) then 5 else 0
theorem Rq (c:AL) (u:Bl) (q:EF c.Kind=some u) (hm:0<=c.Map/\c.Map<18446744073709551616):Nj c=some (vT c u):=by
 have C:AY Ue (.b2 c u)=some (bif !I5 c.Bq then 5 else bif !I5 c.Dx then 5 else bif !I5 c.Version then 5 else bif u.Length&&(decide (c.Length<27)||decide (c.Length>251)) then 5 else 0):=(BA _ _).trans (by
  simp only[Ue,DN,ZAf,Option.bind_some];cases I5 c.Bq<;>cases I5 c.Dx<;>cases I5 c.Version<;>cases u.Length<;>cases decide (c.Length<27)<;>cases decide (c.Length>251)<;>rfl)
 have A:AY Ue (.b1 c u)=some (bif u.Map&&(JF c.Map != 0) then JF c.Map else bif !I5 c.Bq then 5 else bif !I5 c.Dx then 5 else bif !I5 c.Version then 5 else bif u.Length&&(decide (c.Length<27)||decide (c.Length>251)) then 5 else 0):=(BA _ _).trans (by
  have h:=Ztx c.Map.toNat (by omega);rw[Int.toNat_of_nonneg hm.1]at h;simp only[Ue,DN,h,Option.bind_some,C];cases u.Map<;>cases (JF c.Map != 0)<;>rfl)
 refine(BA _ _).trans ?_;simp only[Ue,DN,q,Option.bind_some,ZE1 c u q,Zjk,A];unfold vT;rw[show zC (TK c u)=_ from rfl];cases u.Fg
 ·rfl
 ·simp only[Bool.not_true,cond_false];unfold zC;generalize ((TK c u).Kind==0&&_)=z;cases z
  ·rfl
  ·cases u.BG<;>cases (IX c.BG != 0)<;>rfl
theorem Qw {x:Bool} {a b:Int} (h:x=true->a≠0):(bif x then a else b)=0↔x=false/\b=0:=by cases x<;>simp_all
theorem ZdQ {c:AL} {u:Bl}:vT c u=0↔u.Fg=true/\TK c u=Fp/\(u.BG=true->IX c.BG=0)/\(u.Map=true->JF c.Map=0)/\R8 c.Bq/\R8 c.Dx/\R8 c.Version/\(u.Length=true->27<=c.Length/\c.Length<=251):=by
 rw[<- ZEn,<- Z3A,<- Z3A,<- Z3A];unfold vT;have q:(u.BG&&(IX c.BG != 0))=false↔(u.BG=true->IX c.BG=0):=by cases u.BG<;>simp
 have z:(u.Map&&(JF c.Map != 0))=false↔(u.Map=true->JF c.Map=0):=by cases u.Map<;>simp
 have A:(u.Length&&(decide (c.Length<27)||decide (c.Length>251)))=false↔(u.Length=true->27<=c.Length/\c.Length<=251):=by cases u.Length<;>simp
 rw[Qw (fun _=>by decide),Qw (fun _=>by decide),Qw (fun h=>by simp at h;exact h.2),Qw (fun h=>by simp at h;exact h.2),Qw (fun _=>by decide),Qw (fun _=>by decide),Qw (fun _=>by decide),Qw (fun _=>by decide),q,z,A];simp only[Bool.not_eq_false',and_true]
theorem Zs4 {c:AL} (h:CV c):Nj c=some 0:=by
 have hm:0<=c.Map/\c.Map<18446744073709551616:=by cases h<;>first|assumption|exact(⟨by decide,by decide⟩:Bv 0)
 have A:R8 0:=⟨by decide,by decide⟩;rcases Sl c.Kind with ⟨q,z⟩|⟨q,z⟩|⟨q,z⟩|⟨q,z⟩|⟨q,z⟩|⟨q,z⟩|⟨q,z⟩|⟨q,z⟩|⟨q,z⟩|⟨q,z⟩|⟨q,z⟩|⟨q,z⟩|⟨q,z⟩
 all_goals
  rw[Rq c _ q hm];refine congrArg some (ZdQ.2 ?_);cases h<;>first|(exfalso;dsimp only at z;omega)|(refine⟨rfl,rfl,?_,?_,?_,?_,?_,?_⟩<;>first|assumption|(intro;assumption)|(intro;exact⟨by assumption,by assumption⟩)|(intro h;exact nomatch h))
theorem Zob (c:AL) (hm:Bv c.Map) (J:R16 c.CP) (M:Bv c.CE) (C : Bv c.Mark) (A:Bv c.DK):∃r,Nj c=some r/\(r=0->CV c):=by
 rcases Sl c.Kind with ⟨z,q⟩|⟨z,q⟩|⟨z,q⟩|⟨z,q⟩|⟨z,q⟩|⟨z,q⟩|⟨z,q⟩|⟨z,q⟩|⟨z,q⟩|⟨z,q⟩|⟨z,q⟩|⟨z,q⟩|⟨z,q⟩
 all_goals
  refine⟨_,Rq c _ z hm,fun Y=>?_⟩;obtain⟨S,N,D,O,F,G,Q,I⟩:=ZdQ.1 Y;obtain⟨k,u,m,i,r,rj,s,mk,f,v,l⟩:=c
  first
   | exact absurd S (by decide)
   | (simp only[TK,Fp,cond_true,cond_false,AL.mk.injEq,true_and,and_true]at N
      dsimp only at q D O F G Q I hm J M C A;simp only[N]
      first
       | (subst q;first|exact CV.upd _ _ (D rfl) J|exact CV.map _ _ hm (O rfl) J|exact CV.term _ F|exact CV.enc _ _ M C | exact CV.ans _ M|exact CV.gZ _ G|exact CV.iC _ Q|exact CV.iK _ _ F G|exact CV.par _ (D rfl))
       | exact CV.plain _ q
       | exact CV.vF _ _ q A
       | exact CV.len _ _ q (I rfl).1 (I rfl).2)
theorem Z18 (z:AL) (q:Bj z):∃r,Nj z=some r/\(r=0->CV z):=Zob z q.1 q.2.1 q.2.2.1 q.2.2.2.1 q.2.2.2.2.1
set_option linter.defProp false
set_option maxHeartbeats 40000000
theorem Bh:(∀(α:Type) (a b:List α),(a++b).length=a.length+b.length)/\(∀(α:Type) (a:α) (l:List α),(a::l).length=l.length+1)/\(∀α:Type,([]:List α).length=0)/\(∀(α:Type) (n:Nat) (l:List α),(l.take n).length=min n l.length)/\(∀(α:Type) (n:Nat) (l:List α),(l.drop n).length=l.length - n)/\(∀(α:Type) (l:List α) (i:Nat) (a:α),(l.set i a).length=l.length)/\(∀(α:Type) (n:Nat) (a:α),(List.replicate n a).length=n):=
 ⟨fun _ _ _=>List.length_append,fun _ _ _=>List.length_cons,fun _=>List.length_nil,fun _ _ _=>List.length_take,fun _ _ _=>List.length_drop,fun _ _ _ _=>List.length_set,fun _ _ _=>List.length_replicate⟩
theorem Dy:(∀a b:Bool,((a&&b)=true)=(a=true/\b=true))/\(∀a b:Bool,((a||b)=true)=(a=true\/b=true))/\(∀(p:Prop) [Decidable p],(decide p=true)=p)/\(∀(α:Type) [BEq α] [LawfulBEq α] (a b:α),((a==b)=true)=(a=b))/\(∀(α:Type) [BEq α] [LawfulBEq α] (a b:α),((a != b)=true)=(a≠b))/\(∀(α:Type) [BEq α] [ReflBEq α] (a:α),(a==a)=true)/\(∀p:Prop,(p/\p)=p)/\(∀p:Prop,(p/\True)=p)/\(∀p:Prop,(True/\p)=p)/\(∀(α q:Type) (f:α->q) (l:List α),(l.map f).length=l.length):=
 ⟨Bool.and_eq_true,Bool.or_eq_true,fun _ _=>decide_eq_true_eq,fun _ _ _ _ _=>propext beq_iff_eq,fun _ _ _ _ _=>propext bne_iff_ne,fun _ _ _ a=>beq_self_eq_true a,and_self,and_true,true_and,fun _ _ _ _=>List.length_map _⟩
theorem Fj:(∀(p:Prop) [Decidable p],(decide p=true)=p)/\(∀(p:Prop) [Decidable p],(decide p=false)=¬p)/\(∀b:Bool,((!b)=true)=(b=false))/\(∀b:Bool,((!b)=false)=(b=true))/\(∀b:Bool,(¬b=true)=(b=false))/\(∀b:Bool,(¬b=false)=(b=true))/\(∀(α:Type) [BEq α] [LawfulBEq α] (a b:α),((a==b)=true)=(a=b))/\(∀(α:Type) [BEq α] [LawfulBEq α] (a b:α),((a != b)=true)=(a≠b)) /\
  (∀(α:Type) [BEq α] [LawfulBEq α] (a b:α),((a==b)=false)=(a≠b))/\(∀(α:Type) [BEq α] [LawfulBEq α] (a b:α),((a != b)=false)=(a=b))/\(∀(α:Type) (a b:α),(a≠b)=¬a=b)/\(∀a b:Bool,((a&&b)=true)=(a=true/\b=true))/\(∀a b:Bool,((a||b)=true)=(a=true\/b=true))/\(∀p:Prop,(¬¬p)=p):=
 ⟨fun _ _=>decide_eq_true_eq,fun _ _=>propext decide_eq_false_iff_not,fun b=>by cases b<;>simp,fun b=>by cases b<;>simp,fun b=>by cases b<;>simp,fun b=>by cases b<;>simp,fun _ _ _ _ _=>propext beq_iff_eq,fun _ _ _ _ _=>propext bne_iff_ne,fun _ _ _ _ _=>propext beq_eq_false_iff_ne,fun _ _ _ _ _=>propext bne_eq_false_iff_eq,fun _ _ _=>rfl,Bool.and_eq_true,Bool.or_eq_true,fun _=>propext Classical.not_not⟩
theorem Zdp {L:Type} {l:List (BB)} {i:Int} {k:BB->Tr U L} {Q:L->Prop} (h:0<=i/\i<(l.length:Int)) (g:∀v:BB,v∈l->Tot (k v) Q):Tot (Tr.bind (U:=U) 68 (l[Int.toNat i]? : Option (BB)) k) Q:=OE (U:=U) (t:=68) h g
theorem Z31 {L:Type} {l:List (AL)} {i:Int} {k:AL->Tr U L} {Q:L->Prop} (h:0<=i/\i<(l.length:Int)) (g:∀v:AL,v∈l->Tot (k v) Q):Tot (Tr.bind (U:=U) 156 (l[Int.toNat i]? : Option (AL)) k) Q:=OE (U:=U) (t:=156) h g
theorem Z30 {L:Type} {l:List (BF)} {i:Int} {k:BF->Tr U L} {Q:L->Prop} (h:0<=i/\i<(l.length:Int)) (g:∀v:BF,v∈l->Tot (k v) Q):Tot (Tr.bind (U:=U) 138 (l[Int.toNat i]? : Option (BF)) k) Q:=OE (U:=U) (t:=138) h g
theorem Z3x {L:Type} {l:List (BC)} {i:Int} {k:BC->Tr U L} {Q:L->Prop} (h:0<=i/\i<(l.length:Int)) (g:∀v:BC,v∈l->Tot (k v) Q):Tot (Tr.bind (U:=U) 99 (l[Int.toNat i]? : Option (BC)) k) Q:=OE (U:=U) (t:=99) h g
theorem ZdY {L:Type} {l:List (Int)} {i:Int} {k:Int->Tr U L} {Q:L->Prop} (h:0<=i/\i<(l.length:Int)) (g:∀v:Int,v∈l->Tot (k v) Q):Tot (Tr.bind (U:=U) 3 (l[Int.toNat i]? : Option (Int)) k) Q:=OE (U:=U) (t:=3) h g
theorem Qj {L:Type} {l:List (Int)} {i:Int} {k:Int->Tr U L} {Q:L->Prop} (h:0<=i/\i<(l.length:Int)) (g:∀v:Int,v∈l->Tot (k v) Q):Tot (Tr.bind (U:=U) 5 (l[Int.toNat i]? : Option (Int)) k) Q:=OE (U:=U) (t:=5) h g
theorem ZBf {L:Type} {l:List (Int)} {i:Int} {k:Int->Tr U L} {Q:L->Prop} (h:0<=i/\i<(l.length:Int)) (g:∀v:Int,v∈l->Tot (k v) Q):Tot (Tr.bind (U:=U) 25 (l[Int.toNat i]? : Option (Int)) k) Q:=OE (U:=U) (t:=25) h g
theorem Zd9 {L:Type} {l:List (BD)} {i:Int} {k:BD->Tr U L} {Q:L->Prop} (h:0<=i/\i<(l.length:Int)) (g:∀v:BD,v∈l->Tot (k v) Q):Tot (Tr.bind (U:=U) 148 (l[Int.toNat i]? : Option (BD)) k) Q:=OE (U:=U) (t:=148) h g
theorem ZC3 {L:Type} {l:List (EN)} {i:Int} {k:EN->Tr U L} {Q:L->Prop} (h:0<=i/\i<(l.length:Int)) (g:∀v:EN,v∈l->Tot (k v) Q):Tot (Tr.bind (U:=U) 83 (l[Int.toNat i]? : Option (EN)) k) Q:=OE (U:=U) (t:=83) h g
theorem Zzu {L:Type} {l:List (Em)} {i:Int} {k:Em->Tr U L} {Q:L->Prop} (h:0<=i/\i<(l.length:Int)) (g:∀v:Em,v∈l->Tot (k v) Q):Tot (Tr.bind (U:=U) 113 (l[Int.toNat i]? : Option (Em)) k) Q:=OE (U:=U) (t:=113) h g
theorem Jc:(∀(q z A:Int),∃r,Nh q z A=some r/\True) /\
  (∀(q z A:Int),∃r,UW q z A=some r/\True) /\
  (∃r,Z2F=some r/\(r=Ld)) /\
  (∀(q:Int),∃r,qM q=some r/\True) /\
  (∀(q z A:Int),Bv z->∃r,Z2z q z A=some r/\BM r) /\
  (∃r,Z1w=some r/\(r.length<=37)) /\
  (∀(q:Du) (z:Bool),∃r,oW q z=some r/\True) /\
  (∀(q:Bd),DX q->∃r,Z2e q=some r/\True) /\
  (∀(q:Int),∃r,kX q=some r/\True) /\
  (∀(q:Int),∃r,nK q=some r/\True) /\
  (∀(q z:Int),∃r,Z1U q z=some r/\True) /\
  (∀(q:A7),BM q->∃r,Y2 q=some r/\True) /\
  (∀(q:Int),∃r,Z0D q=some r/\True) /\
  (∀(q:Int),∃r,EF q=some r/\D8 r):=by
 refine⟨fun q z A=>BK (fun(p:Xa)=>True) (fun(p:Xa)=>(0,0,0)) ?_ _ ?_,
  fun q z A=>BK (fun(p:XL)=>True) (fun(p:XL)=>(0,0,0)) ?_ _ ?_,
  BK (fun(p:bF)=>True) (fun(p:bF)=>(0,0,0)) ?_ _ ?_,
  fun q=>BK (fun(p:cZ)=>True) (fun(p:cZ)=>(0,0,0)) ?_ _ ?_,
  fun q z A F=>BK (fun(p:dK)=>match p with | .b0 _ G _=>Bv G) (fun(p:dK)=>(0,0,0)) ?_ _ ?_,
  BK (fun(p:YM)=>True) (fun(p:YM)=>(0,0,0)) ?_ _ ?_,
  fun q z=>BK (fun(p:Yy)=>True) (fun(p:Yy)=>(0,0,0)) ?_ _ ?_,
  fun q F=>BK (fun(p:Yk)=>match p with | .b0 D=>DX D) (fun(p:Yk)=>(0,0,0)) ?_ _ ?_,
  fun q=>BK (fun(p:XE)=>match p with | .b0 ..=>True | .b1 _ _ C=>0<=C/\C<=8) (fun(p:XE)=>match p with | .b0 ..=>(1,0,0) | .b1 _ _ C=>(0,(8 - C).toNat,0)) ?_ _ ?_,
  fun q=>BK (fun(p:YL)=>True) (fun(p:YL)=>(0,0,0)) ?_ _ ?_,
  fun q z=>BK (fun(p:Yu)=>True) (fun(p:Yu)=>(0,0,0)) ?_ _ ?_,
  fun q F=>BK (fun(p:Ya)=>match p with | .b0 D=>BM D) (fun(p:Ya)=>(0,0,0)) ?_ _ ?_,
  fun q=>BK (fun(p:XQ)=>True) (fun(p:XQ)=>(0,0,0)) ?_ _ ?_,
  fun q=>BK (fun(p:Xb)=>True) (fun(p:Xb)=>match p with | .b0 ..=>(0,0,3) | .b2 ..=>(0,0,2) | .b4 ..=>(0,0,1)|_=>(0,0,0)) ?_ _ ?_⟩
 all_goals try (intro p hp;cases p)
 all_goals
  try dsimp only at hp
  try exact False.elim hp
  try have I:=hp
  try dsimp only[BQ,DX,BM,D5,CO,Eo,Eu,ES]at I
  try (repeat with_reducible (have J:=And.left hp;replace hp:=And.right hp))
  try simp only[Z13,Z7R,Zcd,Zc1,ZbQ,Zae,ZbD,Zb9,Z7z,Zah,Zbn,Z1d,Z8r,Kz]
  try dsimp only
  repeat' first|(refine Ea ?_;dsimp only;try simp(disch:=omega) only[Bo,Bh,List.nil_append,List.drop_zero])|(refine FM (fun h=>?_) (fun h=>?_)<;>(try simp only[Fj,reduceCtorEq]at h;try simp(disch:=omega) only[Bo]at h))|refine Dl ?_ ?_|refine Gl ?_|with_reducible apply And.intro|rfl|assumption|exact True.intro|omega|exact decide_eq_true (GN _).1|exact GL (by assumption) (by omega)|exact Gj (by assumption) (by omega)|(refine FY.2 ?_;first|omega|grind)|(apply Gh;first|omega|(simp only[Bh];omega))|(simp only[Dy,Bh,Cb,maxLen_eq,kL,kA]<;>omega)|(simp(disch:=omega) only[Bo,decide_eq_true_eq,bne_iff_ne,ne_eq];(repeat' split)<;>omega)|(simp[D8,Ey];done)|grind|(simp only[Dy,Bh,Cb,maxLen_eq,kL,kA]<;>grind)|grind [EI]
def Z8T:=Jc.1
def Z7Z:=Jc.2.1
def ZxQ:=Jc.2.2.1
def ZbF:=Jc.2.2.2.1
def ZwJ:=Jc.2.2.2.2.1
def ZrG:=Jc.2.2.2.2.2.1
def Zb5:=Jc.2.2.2.2.2.2.1
def Zwy:=Jc.2.2.2.2.2.2.2.1
def Zmr:=Jc.2.2.2.2.2.2.2.2.1
def Z9C:=Jc.2.2.2.2.2.2.2.2.2.1
def ZuA:=Jc.2.2.2.2.2.2.2.2.2.2.1
def ZrD:=Jc.2.2.2.2.2.2.2.2.2.2.2.1
def Zna:=Jc.2.2.2.2.2.2.2.2.2.2.2.2.1
def U2:=Jc.2.2.2.2.2.2.2.2.2.2.2.2.2
theorem Kq:(∀(q:Int),∃r,U1 q=some r/\True) /\
  (∀(q A:Int),0<=A->A<=8->∃r,Lj q A=some r/\(r.q0.length:Int)=A/\Ci r.q0) /\
  (∀(q:Int),∃r,Ut q=some r/\((r=true->EI q))) /\
  (∀(q:BB),∃r,jX q=some r/\((r=0->1<=q.CQ/\q.CQ<=3/\(1<=q.Payload.length\/q.CQ=1)/\q.Payload.length<=255))) /\
  (∀(q:BB),∃r,XT q=some r/\((r=false->q.CQ=1->1<=q.Payload.length))) /\
  (∃r,Z1c=some r/\(r=⟨1,[]⟩)) /\
  (∀(q:BB),∃r,U7 q=some r/\((r=false->q.CQ=1->1<=q.Payload.length))) /\
  (∀(q:Be) (A:List Int),∃r,oN q A=some r/\r = { q with BU:={ q.BU with Payload:=A } }) /\
  (∀(q A:Int),0<=A->A<=32->∃r,Nu q A=some r/\True) /\
  (∀(q A:Int),0<=q->q<=8->∃r,Ox q A=some r/\(r.q0.length:Int)=q/\Ci r.q0) /\
  (∀(q:List Int),q.length<=1000000->∃r,nY q=some r/\Bv r) /\
  (∀(q A:List Int),q.length<=1000000->∃r,pW q A=some r/\(r.q0.length<=q.length/\Ci r.q0/\(q.length<=A.length->r.q0.length=q.length))) /\
  (∀(q:Cm) (A J:Int),Gt q->∃r,mX q A J=some r/\Bv r) /\
  (∀(q:Int),∃r,oV q=some r/\r.length=3/\Ci r):=by
 refine⟨fun q=>BK (fun(p:Xk)=>True) (fun(p:Xk)=>(0,0,0)) ?_ _ ?_,
  fun q A G I=>BK (fun(p:dC)=>match p with | .b0 _ C=>C=A/\0<=C/\C<=8 | .b1 _ C F D=>C=A/\0<=C/\C<=8/\0<=D/\D<=C/\(F.length:Int)=D/\Ci F) (fun(p:dC)=>match p with | .b0 ..=>(1,0,0) | .b1 _ C _ D=>(0,(C - D).toNat,0)) ?_ _ ?_,
  fun q=>BK (fun(p:bM)=>match p with | .b0 z=>z=q) (fun(p:bM)=>(0,0,0)) ?_ _ ?_,
  fun q=>BK (fun(p:W9)=>match p with | .b0 z=>z=q | .b1 z=>z=q/\1<=z.CQ/\z.CQ<=3 | .b2 z=>(z=q/\1<=z.CQ/\z.CQ<=3/\(1<=z.Payload.length\/z.CQ=1))) (fun(p:W9)=>match p with | .b0 ..=>(0,0,2) | .b1 ..=>(0,0,1) | .b2 ..=>(0,0,0)) ?_ _ ?_,
  fun q=>BK (fun(p:XO)=>match p with | .b0 z=>z=q) (fun(p:XO)=>(0,0,0)) ?_ _ ?_,
  BK (fun(p:YK)=>True) (fun(p:YK)=>(0,0,0)) ?_ _ ?_,
  fun q=>BK (fun(p:Yb)=>match p with | .b0 z=>z=q) (fun(p:Yb)=>(0,0,0)) ?_ _ ?_,
  fun q A=>BK (fun(p:Yg)=>match p with | .b0 z C=>z=q/\C=A) (fun(p:Yg)=>(0,0,0)) ?_ _ ?_,
  fun q A G I=>BK (fun(p:aG)=>match p with | .b0 _ C=>0<=C/\C<=32) (fun(p:aG)=>(0,0,0)) ?_ _ ?_,
  fun q A G I=>BK (fun(p:bU)=>match p with | .b0 z _=>z=q/\0<=z/\z<=8 | .b1 z _ F D=>z=q/\0<=z/\z<=8/\0<=D/\D<=z/\(F.length:Int)=D/\Ci F) (fun(p:bU)=>match p with | .b0 ..=>(1,0,0) | .b1 z _ _ D=>(0,(z - D).toNat,0)) ?_ _ ?_,
  fun q G=>BK (fun(p:YV)=>match p with | .b0 z=>z.length<=1000000 | .b1 z C F=>-1<=F/\F<(z.length:Int)/\z.length<=1000000/\Bv C) (fun(p:YV)=>match p with | .b0 ..=>(1,0,0) | .b1 _ _ F=>(0,(F+1).toNat,0)) ?_ _ ?_,
  fun q A G=>BK (fun(p:bD)=>match p with | .b0 z C=>z=q/\C=A | .b1 z C F D=>(z=q/\C=A/\z.length<=1000000/\0<=D/\D<=(z.length:Int)/\(q.length<=A.length\/D<=(C.length:Int))/\(F.length:Int)=D/\Ci F) | .b2 z C F D=>z=q/\C=A/\z.length<=1000000/\0<=D/\D<(z.length:Int)/\D<(C.length:Int)/\(F.length:Int)=D/\Ci F) (fun(p:bD)=>match p with | .b0 ..=>(1,0,0) | .b1 z _ _ D=>(0,((z.length:Int) - D).toNat,1) | .b2 z _ _ D=>(0,((z.length:Int) - D).toNat,0)) ?_ _ ?_,
  fun q A J G=>BK (fun(p:Xw)=>match p with | .b0 z _ _=>Gt z | .b1 _ _ F=>Gt F) (fun(p:Xw)=>match p with | .b0 ..=>(0,0,1) | .b1 ..=>(0,0,0)) ?_ _ ?_,
  fun q=>BK (fun(p:aK)=>True) (fun(p:aK)=>(0,0,0)) ?_ _ ?_⟩
 all_goals try (intro p hp;cases p)
 all_goals
  try dsimp only at hp
  try exact False.elim hp
  try have M:=hp
  try dsimp only[BQ,DX,BM,D5,CO,Eo,Eu,ES]at M
  try (repeat with_reducible (have N:=And.left hp;replace hp:=And.right hp))
  try simp only[Z0N,Zc7,Z2L,Rf,Z0F,Za6,Z9L,Zbt,Zb8,Uz,U8,Zct,Z9v,ZaT]
  try dsimp only
  repeat' first|(refine Ea ?_;dsimp only;try simp(disch:=omega) only[Bo,Bh,List.nil_append,List.drop_zero])|(refine FM (fun h=>?_) (fun h=>?_)<;>(try simp only[Fj,reduceCtorEq]at h;try simp(disch:=omega) only[Bo]at h))|refine Dl ?_ ?_|refine Gl ?_|refine Qj ?_ fun v O=>?_|with_reducible apply And.intro|rfl|assumption|exact True.intro|omega|exact decide_eq_true (GN _).1|exact GL (by assumption) (by omega)|exact Gj (by assumption) (by omega)|(refine FY.2 ?_;first|omega|grind)|(apply Gh;first|omega|(simp only[Bh];omega))|(simp only[Dy,Bh,Cb,maxLen_eq,kL,kA]<;>omega)|(simp(disch:=omega) only[Bo,decide_eq_true_eq,bne_iff_ne,ne_eq];(repeat' split)<;>omega)|(simp[D8,Ey];done)|grind|(simp only[Dy,Bh,Cb,maxLen_eq,kL,kA]<;>grind)|grind [EI]
def Zcf:=Kq.2.1
def Zxd:=Kq.2.2.1
def Zk5:=Kq.2.2.2.1
def Z8o:=Kq.2.2.2.2.1
def ZrV:=Kq.2.2.2.2.2.1
def Z1q:=Kq.2.2.2.2.2.2.1
def Zut:=Kq.2.2.2.2.2.2.2.1
def ZuZ:=Kq.2.2.2.2.2.2.2.2.1
def Z2W:=Kq.2.2.2.2.2.2.2.2.2.1
def ZrP:=Kq.2.2.2.2.2.2.2.2.2.2.1
def Zx0:=Kq.2.2.2.2.2.2.2.2.2.2.2.1
def ZsF:=Kq.2.2.2.2.2.2.2.2.2.2.2.2.1
def Zuj:=Kq.2.2.2.2.2.2.2.2.2.2.2.2.2
theorem Jd:(∀(q z:Int),∃r,Z24 q z=some r/\True) /\
  (∀(q:Int),∃r,Z1s q=some r/\True) /\
  (∀(q:Int),∃r,Z1T q=some r/\True) /\
  (∀(q:Du) (z:Bool),∃r,Z11 q z=some r/\True) /\
  (∀(q:List BC) (z:Int) (G:Bool),q.length<=37->∃r,Xo q z G=some r/\r.length<=37) /\
  (∀(q z:Int),∃r,pJ q z=some r/\True) /\
  (∀(q:Int),∃r,Nk q=some r/\True) /\
  (∀(q z:Int),∃r,bK q z=some r/\R16 r) /\
  (∀(q:AL),∃r,X9 q=some r/\r.Map=q.Map/\r.CP=q.CP) /\
  (∀(k:Int) (q:Ac) (z:Int),BQ k q->0<=k->k<=1000000->∃r,qK q z=some r/\BQ k r.1/\r.2.length<=1) /\
  (∀(q:Int),∃r,kE q=some r/\True) /\
  (∀(q:A7) (z:AL),BM q->Bj z->∃r,mM q z=some r/\Bj r) /\
  (∀(q:A7) (z:Int),BM q->∃r,nX q z=some r/\True) /\
  (∀(q:Int),∃r,XW q=some r/\True):=by
 refine⟨fun q z=>BK (fun(p:Yz)=>True) (fun(p:Yz)=>(0,0,0)) ?_ _ ?_,
  fun q=>BK (fun(p:YJ)=>True) (fun(p:YJ)=>(0,0,0)) ?_ _ ?_,
  fun q=>BK (fun(p:Yw)=>True) (fun(p:Yw)=>(0,0,0)) ?_ _ ?_,
  fun q z=>BK (fun(p:Xi)=>True) (fun(p:Xi)=>(0,0,0)) ?_ _ ?_,
  fun q z G F=>BK (fun(p:X3)=>match p with | .b0 A _ _=>A.length<=37 | .b1 A _ C=>C.length<=37/\0<=A/\A<(C.length:Int) | .b2 A _ C=>C.length<=37/\0<=A/\A<(C.length:Int) | .b3 A _ C=>C.length<=37/\0<=A/\A<(C.length:Int) | .b4 A D=>D.length<=37/\0<=A/\A<(D.length:Int)) (fun(p:X3)=>match p with | .b0 ..=>(0,0,4) | .b1 ..=>(0,0,3) | .b2 ..=>(0,0,2) | .b3 ..=>(0,0,1) | .b4 ..=>(0,0,0)) ?_ _ ?_,
  fun q z=>BK (fun(p:Yi)=>True) (fun(p:Yi)=>match p with | .b0 ..=>(0,0,1) | .b1 ..=>(0,0,0)) ?_ _ ?_,
  fun q=>BK (fun(p:Xt)=>True) (fun(p:Xt)=>(0,0,0)) ?_ _ ?_,
  fun q z=>BK (fun(p:bG)=>True) (fun(p:bG)=>(0,0,0)) ?_ _ ?_,
  fun q=>BK (fun(p:Xf)=>match p with | .b0 A=>A=q) (fun(p:Xf)=>(0,0,0)) ?_ _ ?_,
  fun k q z F I N=>BK (fun(p:bP)=>match p with | .b0 A _=>BQ k A) (fun(p:bP)=>(0,0,0)) ?_ _ ?_,
  fun q=>BK (fun(p:Wy)=>True) (fun(p:Wy)=>match p with | .b0 ..=>(0,0,4) | .b1 ..=>(0,0,3) | .b2 ..=>(0,0,2) | .b3 ..=>(0,0,1) | .b4 ..=>(0,0,0)) ?_ _ ?_,
  fun q z F I=>BK (fun(p:X7)=>match p with | .b0 A D=>BM A/\Bj D | .b1 A _=>Bj A) (fun(p:X7)=>match p with | .b0 ..=>(0,0,1) | .b1 ..=>(0,0,0)) ?_ _ ?_,
  fun q z F=>BK (fun(p:Y1)=>match p with | .b0 A _=>BM A | .b1 _ D C=>BM C/\0<=D/\D<=(C.Aa.length:Int)) (fun(p:Y1)=>match p with | .b0 ..=>(1,0,0) | .b1 _ D C=>(0,((C.Aa.length:Int) - D).toNat,0)) ?_ _ ?_,
  fun q=>BK (fun(p:X5)=>True) (fun(p:X5)=>(0,0,0)) ?_ _ ?_⟩
 all_goals try (intro p hp;cases p)
 all_goals
  try dsimp only at hp
  try exact False.elim hp
  try have M:=hp
  try dsimp only[BQ,DX,BM,D5,CO,Eo,Eu,ES]at M
  try (repeat with_reducible (have O:=And.left hp;replace hp:=And.right hp))
  try simp only[Zbf,Z9K,ZaZ,Z9b,Z9e,aC,Z1u,Z2U,Z8X,ZcB,kR,mF,U9,Z0I]
  try dsimp only
  repeat' first|(refine Ea ?_;dsimp only;try simp(disch:=omega) only[Bo,Bh,List.nil_append,List.drop_zero])|(refine FM (fun h=>?_) (fun h=>?_)<;>(try simp only[Fj,reduceCtorEq]at h;try simp(disch:=omega) only[Bo]at h))|refine Dl ?_ ?_|refine Gl ?_|refine Z3x ?_ fun v J=>?_|refine Z31 ?_ fun v J=>?_|with_reducible apply And.intro|rfl|assumption|exact True.intro|omega|exact decide_eq_true (GN _).1|exact GL (by assumption) (by omega)|exact Gj (by assumption) (by omega)|(refine FY.2 ?_;first|omega|grind)|(apply Gh;first|omega|(simp only[Bh];omega))|(simp only[Dy,Bh,Cb,maxLen_eq,kL,kA]<;>omega)|(simp(disch:=omega) only[Bo,decide_eq_true_eq,bne_iff_ne,ne_eq];(repeat' split)<;>omega)|(simp[D8,Ey];done)|grind|(simp only[Dy,Bh,Cb,maxLen_eq,kL,kA]<;>grind)|grind [EI]
def Zvg:=Jd.1
def ZsU:=Jd.2.1
def Zwl:=Jd.2.2.1
def Zqq:=Jd.2.2.2.1
def Z8N:=Jd.2.2.2.2.1
def Zwp:=Jd.2.2.2.2.2.1
def Zaf:=Jd.2.2.2.2.2.2.1
def Zx8:=Jd.2.2.2.2.2.2.2.1
def ZoF:=Jd.2.2.2.2.2.2.2.2.1
def ZbM:=Jd.2.2.2.2.2.2.2.2.2.1
def Zlr:=Jd.2.2.2.2.2.2.2.2.2.2.1
def ZpS:=Jd.2.2.2.2.2.2.2.2.2.2.2.1
def Zsb:=Jd.2.2.2.2.2.2.2.2.2.2.2.2.1
def ZpX:=Jd.2.2.2.2.2.2.2.2.2.2.2.2.2
theorem NL:(∀(q:AL),∃r,Lh q=some r/\r=[q]) /\
  (∀(q:Cm) (A F:Bool),Gt q->∃r,Uf q A F=some r/\Gt r) /\
  (∀(q:Int),∃r,Ol q=some r/\0<=r/\r<=65536) /\
  (∀(q:List BC) (A:Int),q.length<=37->∃r,VL q A=some r/\True) /\
  (∀(q:List Int),q.length<=65536->Ci q->∃r,Z0X q=some r/\CO r.1.BU) /\
  (∀(q A:List Int),q.length<=100000->A.length<=100000->∃r,Z21 q A=some r/\True) /\
  (∀(q:Int),∃r,Z1M q=some r/\True) /\
  (∀(q:Cm) (A F:Bool),Gt q->∃r,oO q A F=some r/\Gt r) /\
  (∀(q:List Int) (A F:Int),0<=A->0<=F->F<=8->A+F<=(q.length:Int)->q.length<=1000000->∃r,Lc q A F=some r/\Bv r) /\
  (∀(q:List BD) (A:Int),q.length<=1->∃r,nZ q A=some r/\r.length<=1) /\
  (∀(q A:Int),∃r,L6 q A=some r/\r.length=1):=by
 refine⟨fun q=>BK (fun(p:dB)=>match p with | .b0 z=>z=q) (fun(p:dB)=>(0,0,0)) ?_ _ ?_,
  fun q A F I=>BK (fun(p:Yr)=>match p with | .b0 z _ _=>Gt z) (fun(p:Yr)=>(0,0,0)) ?_ _ ?_,
  fun q=>BK (fun(p:Xz)=>True) (fun(p:Xz)=>(0,0,0)) ?_ _ ?_,
  fun q A I=>BK (fun(p:dS)=>match p with | .b0 z _=>z.length<=37 | .b1 ..=>True | .b2 z C _=>z.length<=37/\0<=C/\C<(z.length:Int)) (fun(p:dS)=>match p with | .b0 ..=>(0,0,1)|_=>(0,0,0)) ?_ _ ?_,
  fun q I J=>BK (fun(p:XX)=>match p with | .b0 z=>z.length<=65536/\Ci z | .b1 ..=>True | .b2 z _ _ _ _=>2<=z.length/\z.length<=65536/\Ci z) (fun(p:XX)=>match p with | .b0 ..=>(0,0,1)|_=>(0,0,0)) ?_ _ ?_,
  fun q A I J=>BK (fun(p:Yv)=>match p with | .b0 z C=>z.length<=100000/\C.length<=100000) (fun(p:Yv)=>(0,0,0)) ?_ _ ?_,
  fun q=>BK (fun(p:Xv)=>True) (fun(p:Xv)=>(0,0,0)) ?_ _ ?_,
  fun q A F I=>BK (fun(p:aN)=>match p with | .b0 z _ _=>Gt z | .b1 _ C _=>Gt C | .b2 _ C _=>Gt C | .b3 z _=>Gt z) (fun(p:aN)=>match p with | .b0 ..=>(0,0,3) | .b1 ..=>(0,0,2) | .b2 ..=>(0,0,1) | .b3 ..=>(0,0,0)) ?_ _ ?_,
  fun q A F I J O Q S=>BK (fun(p:dI)=>match p with | .b0 z C G=>0<=C/\0<=G/\G<=8/\C+G<=(z.length:Int)/\z.length<=1000000 | .b1 z C G D=>0<=C /\ -1<=D/\D<=7/\C+D<(z.length:Int)/\z.length<=1000000/\Bv G) (fun(p:dI)=>match p with | .b0 ..=>(1,0,0) | .b1 _ _ _ D=>(0,(D+1).toNat,0)) ?_ _ ?_,
  fun q A I=>BK (fun(p:YS)=>match p with | .b0 z _=>z.length<=1 | .b1 z _ G D=>z.length<=1/\G.length<=1/\0<=D/\D<=(z.length:Int)/\(G.length:Int)=D) (fun(p:YS)=>match p with | .b0 ..=>(1,0,0) | .b1 z _ _ D=>(0,((z.length:Int) - D).toNat,0)) ?_ _ ?_,
  fun q A=>BK (fun(p:aS)=>True) (fun(p:aS)=>(0,0,0)) ?_ _ ?_⟩
 all_goals try (intro p hp;cases p)
 all_goals
  try dsimp only at hp
  try exact False.elim hp
  try have N:=hp
  try dsimp only[BQ,DX,BM,D5,CO,Eo,Eu,ES]at N
  try (repeat with_reducible (have Y:=And.left hp;replace hp:=And.right hp))
  try simp only[Zce,Zb1,Z1C,VE,Z8U,ZaS,Z9O,ZaE,Zcq,Z9z,ZaJ]
  try dsimp only
  repeat' first|(refine Ea ?_;dsimp only;try simp(disch:=omega) only[Bo,Bh,List.nil_append,List.drop_zero])|(refine FM (fun h=>?_) (fun h=>?_)<;>(try simp only[Fj,reduceCtorEq]at h;try simp(disch:=omega) only[Bo]at h))|refine Dl ?_ ?_|refine Gl ?_|refine Z3x ?_ fun v M=>?_|refine Qj ?_ fun v M=>?_|refine Zd9 ?_ fun v M=>?_|with_reducible apply And.intro|rfl|assumption|exact True.intro|omega|exact decide_eq_true (GN _).1|exact GL (by assumption) (by omega)|exact Gj (by assumption) (by omega)|(refine FY.2 ?_;first|omega|grind)|(apply Gh;first|omega|(simp only[Bh];omega))|(simp only[Dy,Bh,Cb,maxLen_eq,kL,kA]<;>omega)|(simp(disch:=omega) only[Bo,decide_eq_true_eq,bne_iff_ne,ne_eq];(repeat' split)<;>omega)|(simp[D8,Ey];done)|grind|(simp only[Dy,Bh,Cb,maxLen_eq,kL,kA]<;>grind)|grind [EI]
def Z2l:=NL.1
def ZaW:=NL.2.1
def Z1L:=NL.2.2.1
def ZzE:=NL.2.2.2.1
def ZpN:=NL.2.2.2.2.1
def Zwv:=NL.2.2.2.2.2.1
def Ztc:=NL.2.2.2.2.2.2.1
def Zar:=NL.2.2.2.2.2.2.2.1
def Z2q:=NL.2.2.2.2.2.2.2.2.1
def Z9D:=NL.2.2.2.2.2.2.2.2.2.1
def Zv9:=NL.2.2.2.2.2.2.2.2.2.2
theorem Z1x:∀(A:Int),0<=A->A<=63->∃r,Ry A=some r/\0<r:=by
 refine fun A Q F=>BK (fun(p:YB)=>match p with | .b0 q=>0<=q/\q<=63 | .b1 q I z=>0<=z/\q<=63/\z<=q/\I=2 ^ z.toNat) (fun(p:YB)=>match p with | .b0 ..=>(1,0,0) | .b1 q _ z=>(0,(q - z).toNat,0)) ?_ _ ?_
 all_goals try (intro p hp;cases p)
 case' b1=>
  dsimp only at hp;have D:=hp
  try dsimp only[BQ,DX,BM,D5,CO,Eo,Eu,ES]at D
  simp only[U6];obtain⟨F,O,S,G⟩:=hp;refine FM (fun h=>?_) (fun h=>?_)
  ·simp only[decide_eq_true_eq]at h;refine Ea ?_;dsimp only;obtain⟨n,rfl⟩:=Int.eq_ofNat_of_zero_le F;rw[Bo (by omega) (by omega)];refine⟨⟨by omega,O,by omega,?_⟩,?_⟩
   ·subst G;have Y:n<63:=by omega
    have J:((n:Int)+1).toNat=n+1:=by omega
    have M:((n:Int)).toNat=n:=by omega
    have C:(2:Int) ^ n*2<18446744073709551616:=by
     have:2 ^ (n+1)<2 ^ 64:=Nat.pow_lt_pow_right (by decide) (by omega);have N : ((2 ^ (n+1):Nat):Int)<((2 ^ 64:Nat):Int):=by exact_mod_cast this
     simpa[Int.pow_succ]using N
    rw[J,M,IntKind.wrap_u64,Int.emod_eq_of_lt (Int.mul_nonneg (Int.pow_nonneg (by decide)) (by decide)) C,Int.pow_succ]
   ·refine FY.2 ?_;omega
  ·refine Ea ?_;dsimp only;subst G;exact Int.pow_pos (by decide)
 all_goals
  try dsimp only at hp
  try exact False.elim hp
  try have D:=hp
  try dsimp only[BQ,DX,BM,D5,CO,Eo,Eu,ES]at D
  try (repeat with_reducible (have hq:=And.left hp;replace hp:=And.right hp))
  try simp only[U6]
  try dsimp only
  repeat' first|(refine Ea ?_;dsimp only;try simp(disch:=omega) only[Bo,Bh,List.nil_append,List.drop_zero])|(refine FM (fun h=>?_) (fun h=>?_)<;>(try simp only[Fj,reduceCtorEq]at h;try simp(disch:=omega) only[Bo]at h))|refine Dl ?_ ?_|refine Gl ?_|with_reducible apply And.intro|rfl|assumption|exact True.intro|omega|exact decide_eq_true (GN _).1|exact GL (by assumption) (by omega)|exact Gj (by assumption) (by omega)|(refine FY.2 ?_;first|omega|grind)|(apply Gh;first|omega|(simp only[Bh];omega))|(simp only[Dy,Bh,Cb,maxLen_eq,kL,kA]<;>omega)|(simp(disch:=omega) only[Bo,decide_eq_true_eq,bne_iff_ne,ne_eq];(repeat' split)<;>omega)|(simp[D8,Ey];done)|grind|(simp only[Dy,Bh,Cb,maxLen_eq,kL,kA]<;>grind)|grind [EI]
theorem Zyo:∀(q z:Int),∃r,Ur q z=some r/\True:=by
 refine fun q z=>BK (fun(p:dL)=>True) (fun(p:dL)=>match p with | .b0 ..=>(0,0,1) | .b1 ..=>(0,0,0)) ?_ _ ?_
 all_goals try (intro p hp;cases p)
 case' b0 a0 a1=>
  have hb : -64<Int.tmod (AV (AV (a1.tmod 64+64)*11)) 64/\Int.tmod (AV (AV (a1.tmod 64+64)*11)) 64<64:=tm_bd _ 64 (by omega)
 all_goals
  try dsimp only at hp
  try exact False.elim hp
  try have A:=hp
  try dsimp only[BQ,DX,BM,D5,CO,Eo,Eu,ES]at A
  try (repeat with_reducible (have C:=And.left hp;replace hp:=And.right hp))
  try simp only[aZ]
  try dsimp only
  repeat' first|(refine Ea ?_;dsimp only;try simp(disch:=omega) only[Bo,Bh,List.nil_append,List.drop_zero])|(refine FM (fun h=>?_) (fun h=>?_)<;>(try simp only[Fj,reduceCtorEq]at h;try simp(disch:=omega) only[Bo]at h))|refine Dl ?_ ?_|refine Gl ?_|with_reducible apply And.intro|rfl|assumption|exact True.intro|omega|exact decide_eq_true (GN _).1|exact GL (by assumption) (by omega)|exact Gj (by assumption) (by omega)|(refine FY.2 ?_;first|omega|grind)|(apply Gh;first|omega|(simp only[Bh];omega))|(simp only[Dy,Bh,Cb,maxLen_eq,kL,kA]<;>omega)|(simp(disch:=omega) only[Bo,decide_eq_true_eq,bne_iff_ne,ne_eq];(repeat' split)<;>omega)|(simp[D8,Ey];done)|grind|(simp only[Dy,Bh,Cb,maxLen_eq,kL,kA]<;>grind)|grind [EI]
theorem KZ:(∀(q:DT),∃r,WW q=some r/\True) /\
  (∀(q D:Int),∃r,Un q D=some r/\True) /\
  (∀(q:Int),∃r,Z1i q=some r/\True) /\
  (∀(q:DT),∃r,Z0G q=some r/\True) /\
  (∀(q:DT),∃r,Z1R q=some r/\True) /\
  (∀(k:Int) (q:Ac),BQ k q->0<=k->k<=1000000->∃r,oG q=some r/\True) /\
  (∀(q D:Int),∃r,lW q D=some r/\True) /\
  (∀(q:AL),Bj q->∃r,o6 q=some r/\Bj r) /\
  (∀(q:DT),∃r,ZQ q=some r/\r.length=9/\Ci r) /\
  (∀(q:Be),∃r,Om q=some r/\((r=0->EI q.SN/\EI q.Ee/\EI q.MD/\1<=q.BU.CQ/\q.BU.CQ<=3/\(1<=q.BU.Payload.length\/q.BU.CQ=1)/\q.BU.Payload.length<=255))) /\
  (∀(q:Bd),DX q->∃r,Z1W q=some r/\DX r.1/\r.1.Open=true/\CO r.2.BU) /\
  (∀(q D I:Int),∃r,nC q D I=some r/\True) /\
  (∀(q:Int) (D I:List Int),D.length<=200000->I.length<=200000->∃r,Z1G q D I=some r/\r.q0.length<=400100) /\
  (∀(q:Int) (D:List Int),D.length<=1000000->∃r,qB q D=some r/\True):=by
 refine⟨fun q=>BK (fun(p:WZ)=>True) (fun(p:WZ)=>match p with | .b0 ..=>(0,0,1) | .b1 ..=>(0,0,0)) ?_ _ ?_,
  fun q D=>BK (fun(p:dG)=>True) (fun(p:dG)=>(0,0,0)) ?_ _ ?_,
  fun q=>BK (fun(p:Y6)=>True) (fun(p:Y6)=>(0,0,0)) ?_ _ ?_,
  fun q=>BK (fun(p:Xn)=>True) (fun(p:Xn)=>(0,0,0)) ?_ _ ?_,
  fun q=>BK (fun(p:Yn)=>True) (fun(p:Yn)=>(0,0,0)) ?_ _ ?_,
  fun k q J N Q=>BK (fun(p:YU)=>match p with | .b0 z=>BQ k z) (fun(p:YU)=>(0,0,0)) ?_ _ ?_,
  fun q D=>BK (fun(p:X6)=>match p with | .b0 ..=>True | .b1 _ _ A=>0<=A/\A<=3) (fun(p:X6)=>match p with | .b0 ..=>(1,0,0) | .b1 _ _ A=>(0,(3 - A).toNat,0)) ?_ _ ?_,
  fun q J=>BK (fun(p:aA)=>match p with | .b0 z=>Bj z | .b1 z _ _=>Bj z | .b2 z _ _=>Bj z | .b3 z _ _=>Bj z | .b4 z _ _=>Bj z | .b5 z _ _=>Bj z | .b6 z _ _=>Bj z | .b7 z _ _=>Bj z | .b8 z _ _=>Bj z | .b9 z _ _=>Bj z) (fun(p:aA)=>match p with | .b0 ..=>(0,0,9) | .b1 ..=>(0,0,8) | .b2 ..=>(0,0,7) | .b3 ..=>(0,0,6) | .b4 ..=>(0,0,5) | .b5 ..=>(0,0,4) | .b6 ..=>(0,0,3) | .b7 ..=>(0,0,2) | .b8 ..=>(0,0,1) | .b9 ..=>(0,0,0)) ?_ _ ?_,
  fun q=>BK (fun(p:Ws)=>True) (fun(p:Ws)=>(0,0,0)) ?_ _ ?_,
  fun q=>BK (fun(p:YZ)=>match p with | .b0 z=>z=q | .b1 z=>z=q/\EI z.SN/\EI z.Ee/\EI z.MD) (fun(p:YZ)=>match p with | .b0 ..=>(0,0,1) | .b1 ..=>(0,0,0)) ?_ _ ?_,
  fun q J=>BK (fun(p:Yq)=>match p with | .b0 z=>DX z | .b1 z _ _=>DX z/\z.Open=true | .b2 _ F _ _ G=>DX F/\CO G.BU/\F.Open=true/\F.Empty=false | .b3 _ F _ _ G=>DX F/\CO G.BU/\F.Open=true | .b4 z _ _ M=>DX z/\CO M.BU/\z.Open=true) (fun(p:Yq)=>match p with | .b0 ..=>(0,0,4) | .b1 ..=>(0,0,3) | .b2 ..=>(0,0,2) | .b3 ..=>(0,0,1) | .b4 ..=>(0,0,0)) ?_ _ ?_,
  fun q D I=>BK (fun(p:YA)=>True) (fun(p:YA)=>(0,0,0)) ?_ _ ?_,
  fun q D I J N=>BK (fun(p:Y4)=>match p with | .b0 _ F A=>F.length<=200000/\A.length<=200000) (fun(p:Y4)=>(0,0,0)) ?_ _ ?_,
  fun q D J=>BK (fun(p:dA)=>match p with | .b0 _ F=>F.length<=1000000 | .b1 z _ A=>0<=A/\A<=(z.length:Int)/\z.length<=1000000 | .b2 z _ A _ G=>0<=A/\A<(z.length:Int)/\z.length<=1000000/\0<=G/\G<=8) (fun(p:dA)=>match p with | .b0 ..=>(2,0,0) | .b1 z _ A=>(1,((z.length:Int) - A).toNat,9) | .b2 z _ A _ G=>(1,((z.length:Int) - A).toNat,(8 - G).toNat)) ?_ _ ?_⟩
 all_goals try (intro p hp;cases p)
 all_goals
  try dsimp only at hp
  try exact False.elim hp
  try have O:=hp
  try dsimp only[BQ,DX,BM,D5,CO,Eo,Eu,ES]at O
  try (repeat with_reducible (have S:=And.left hp;replace hp:=And.right hp))
  try simp only[jV,Z2r,Z9Y,Z8O,ZaB,Z9Z,Z8I,GZ,Z7a,YI,ZaV,Z1H,Za7,ZbS]
  try dsimp only
  repeat' first|(refine Ea ?_;dsimp only;try simp(disch:=omega) only[Bo,Bh,List.nil_append,List.drop_zero])|(refine FM (fun h=>?_) (fun h=>?_)<;>(try simp only[Fj,reduceCtorEq]at h;try simp(disch:=omega) only[Bo]at h))|refine Dl ?_ ?_|refine Gl ?_|refine Az (Z8T _ _ _) fun(v:Bool) hm C=>?_|refine Az (Z1x _ ?_ ?_) fun(v:Int) hm C=>?_|refine Az (Z7Z _ _ _) fun(v:Int) hm C=>?_|refine Az (Zwy _ ?_) fun(v:Bool) hm C=>?_|refine Az (Zb5 _ _) fun(v:Bool) hm C=>?_|refine Az (Zmr _) fun(v:Int) hm C=>?_|refine Az (U2 _) fun(v:Bl) hm C=>?_|refine Az (Zcf _ _ ?_ ?_) fun(v:I8) hm C=>?_|refine Az (Zxd _) fun(v:Bool) hm C=>?_|refine Az (Zk5 _) fun(v:Int) hm C=>?_|refine Az (ZrV) fun(v:BB) hm C=>?_|refine Zdp ?_ fun v C=>?_|refine Az (Zyo _ _) fun(v:Int) hm C=>?_|refine Az (ZuZ _ _ ?_ ?_) fun(v:Int) hm C=>?_|refine Az (Z2W _ _ ?_ ?_) fun(v:KN) hm C=>?_|refine Qj ?_ fun v C=>?_|refine Az (Zvg _ _) fun(v:Int) hm C=>?_|with_reducible apply And.intro|rfl|assumption|exact True.intro|omega|exact decide_eq_true (GN _).1|exact GL (by assumption) (by omega)|exact Gj (by assumption) (by omega)|(refine FY.2 ?_;first|omega|grind)|(apply Gh;first|omega|(simp only[Bh];omega))|(simp only[Dy,Bh,Cb,maxLen_eq,kL,kA]<;>omega)|(simp(disch:=omega) only[Bo,decide_eq_true_eq,bne_iff_ne,ne_eq];(repeat' split)<;>omega)|(simp[D8,Ey];done)|grind|(simp only[Dy,Bh,Cb,maxLen_eq,kL,kA]<;>grind)|grind [EI]
def ZjO:=KZ.1
def Zc2:=KZ.2.1
def Zt6:=KZ.2.2.1
def ZoC:=KZ.2.2.2.1
def ZuR:=KZ.2.2.2.2.1
def Z9w:=KZ.2.2.2.2.2.1
def Z90:=KZ.2.2.2.2.2.2.1
def ZkY:=KZ.2.2.2.2.2.2.2.2.1
def nU:=KZ.2.2.2.2.2.2.2.2.2.1
def ZvH:=KZ.2.2.2.2.2.2.2.2.2.2.1
def Zte:=KZ.2.2.2.2.2.2.2.2.2.2.2.1
def Ztq:=KZ.2.2.2.2.2.2.2.2.2.2.2.2.1
def Zy9:=KZ.2.2.2.2.2.2.2.2.2.2.2.2.2
theorem Ja:(∀(q z:Int),0<=z->z<=1000000->∃r,Z07 q z=some r/\(r.length:Int)=z/\Ci r) /\
  (∀(q:Du),∃r,Z1Y q=some r/\True) /\
  (∀(q z:Int),∃r,Xc q z=some r/\True) /\
  (∀(q:Du) (z:Int),∃r,Z2D q z=some r/\True) /\
  (∀(q:A7) (z:AL),BM q->Bj z->∃r,bW q z=some r/\True) /\
  (∀(q z:Int),∃r,aP q z=some r/\R16 r) /\
  (∀(k:Int) (q:Ac),BQ k q->0<=k->k<=1000000->∃r,YC q=some r/\R16 r) /\
  (∀(q z I:Int),∃r,oP q z I=some r/\True) /\
  (∀(q:DT),∃r,Z0t q=some r/\True) /\
  (∀(q:Int),∃r,Wu q=some r/\True) /\
  (∀(q:A7) (z:Int),BM q->∃r,lH q z=some r/\True) /\
  (∀(q:A7) (z:Bool) (I:Int),BM q->Bv I->∃r,lY q z I=some r/\BM r.1/\r.2.length<=2/\FB r.2) /\
  (∀(q:BC),∃r,Uk q=some r/\True) /\
  (∀(q:List Int),q.length<=37->Hg q->∃r,qR q=some r/\Bv r):=by
 refine⟨fun q z J N=>BK (fun(p:XC)=>match p with | .b0 _ C=>C=z/\0<=C/\C<=1000000 | .b1 A C _ F=>A=z/\A<=1000000/\0<=F/\F<=A/\(C.length:Int)=F/\Ci C | .b2 A C _ F _ _ M=>A=z/\A<=1000000/\0<=F/\F<A/\(C.length:Int)=F/\Ci C/\0<=M/\M<=8) (fun(p:XC)=>match p with | .b0 ..=>(2,0,0) | .b1 A _ _ F=>(1,(A - F).toNat,9) | .b2 A _ _ F _ _ M=>(1,(A - F).toNat,(8 - M).toNat)) ?_ _ ?_,
  fun q=>BK (fun(p:aU)=>True) (fun(p:aU)=>(0,0,0)) ?_ _ ?_,
  fun q z=>BK (fun(p:XY)=>True) (fun(p:XY)=>(0,0,0)) ?_ _ ?_,
  fun q z=>BK (fun(p:aY)=>True) (fun(p:aY)=>(0,0,0)) ?_ _ ?_,
  fun q z J N=>BK (fun(p:aW)=>match p with | .b0 A C=>BM A/\Bj C) (fun(p:aW)=>(0,0,0)) ?_ _ ?_,
  fun q z=>BK (fun(p:Yh)=>True) (fun(p:Yh)=>(0,0,0)) ?_ _ ?_,
  fun k q J N Q=>BK (fun(p:Yf)=>match p with | .b0 A=>BQ k A) (fun(p:Yf)=>(0,0,0)) ?_ _ ?_,
  fun q z I=>BK (fun(p:Yt)=>True) (fun(p:Yt)=>(0,0,0)) ?_ _ ?_,
  fun q=>BK (fun(p:XH)=>True) (fun(p:XH)=>(0,0,0)) ?_ _ ?_,
  fun q=>BK (fun(p:Wq)=>True) (fun(p:Wq)=>(0,0,0)) ?_ _ ?_,
  fun q z J=>BK (fun(p:XI)=>match p with | .b0 A _=>BM A | .b1 _ C=>BM C | .b2 _ C=>BM C) (fun(p:XI)=>match p with | .b0 ..=>(0,0,2) | .b1 ..=>(0,0,1) | .b2 ..=>(0,0,0)) ?_ _ ?_,
  fun q z I J N=>BK (fun(p:XZ)=>match p with | .b0 A _ G=>BM A/\Bv G | .b1 _ C G _=>BM G/\Bv C) (fun(p:XZ)=>match p with | .b0 ..=>(0,0,1) | .b1 ..=>(0,0,0)) ?_ _ ?_,
  fun q=>BK (fun(p:aV)=>True) (fun(p:aV)=>(0,0,0)) ?_ _ ?_,
  fun q J N=>BK (fun(p:dN)=>match p with | .b0 A=>A.length<=37/\Hg A | .b1 A C G=>A.length<=37/\(Hg A)/\0<=G/\G<=(A.length:Int)/\Bv C) (fun(p:dN)=>match p with | .b0 ..=>(1,0,0) | .b1 A _ G=>(0,((A.length:Int) - G).toNat,0)) ?_ _ ?_⟩
 all_goals try (intro p hp;cases p)
 all_goals
  try dsimp only at hp
  try exact False.elim hp
  try have O:=hp
  try dsimp only[BQ,DX,BM,D5,CO,Eo,Eu,ES]at O
  try (repeat with_reducible (have S:=And.left hp;replace hp:=And.right hp))
  try simp only[Z7f,ZaO,Z0R,ZbE,Z2t,Z23,Z1I,Zb6,Z7L,ZX,Rl,Xj,Z1S,VK]
  try dsimp only
  repeat' first|(refine Ea ?_;dsimp only;try simp(disch:=omega) only[Bo,Bh,List.nil_append,List.drop_zero])|(refine FM (fun h=>?_) (fun h=>?_)<;>(try simp only[Fj,reduceCtorEq]at h;try simp(disch:=omega) only[Bo]at h))|refine Dl ?_ ?_|refine Gl ?_|refine Az (ZsU _) fun(v:Int) hm D=>?_|refine Az (Zwl _) fun(v:Int) hm D=>?_|refine Az (Zb5 _ _) fun(v:Bool) hm D=>?_|refine Az (Zwp _ _) fun(v:Int) hm D=>?_|refine Az (ZbF _) fun(v:Du) hm D=>?_|refine Az (Zaf _) fun(v:Bool) hm D=>?_|refine Az (Zx8 _ _) fun(v:Int) hm D=>?_|refine Az (Z7Z _ _ _) fun(v:Int) hm D=>?_|refine Az (U2 _) fun(v:Bl) hm D=>?_|refine Az (Zlr _) fun(v:Int) hm D=>?_|refine Az (Zsb _ _ ?_) fun(v:Bool) hm D=>?_|refine Az (Z2l _) fun(v:(List AL)) hm D=>?_|refine Az (Z1L _) fun(v:Int) hm D=>?_|refine Az (Z1x _ ?_ ?_) fun(v:Int) hm D=>?_|refine ZdY ?_ fun v D=>?_|with_reducible apply And.intro|rfl|assumption|exact True.intro|omega|exact decide_eq_true (GN _).1|exact GL (by assumption) (by omega)|exact Gj (by assumption) (by omega)|(refine FY.2 ?_;first|omega|grind)|(apply Gh;first|omega|(simp only[Bh];omega))|(simp only[Dy,Bh,Cb,maxLen_eq,kL,kA]<;>omega)|(simp(disch:=omega) only[Bo,decide_eq_true_eq,bne_iff_ne,ne_eq];(repeat' split)<;>omega)|(simp[D8,Ey];done)|grind|(simp only[Dy,Bh,Cb,maxLen_eq,kL,kA]<;>grind)|grind [EI]
def Zmi:=Ja.1
def Zu0:=Ja.2.1
def Zpm:=Ja.2.2.1
def ZyF:=Ja.2.2.2.1
def Zyj:=Ja.2.2.2.2.1
def Zw1:=Ja.2.2.2.2.2.1
def ZtI:=Ja.2.2.2.2.2.2.1
def Zup:=Ja.2.2.2.2.2.2.2.1
def ZmW:=Ja.2.2.2.2.2.2.2.2.1
def Zlu:=Ja.2.2.2.2.2.2.2.2.2.1
def Zni:=Ja.2.2.2.2.2.2.2.2.2.2.1
def ZpB:=Ja.2.2.2.2.2.2.2.2.2.2.2.1
def Zav:=Ja.2.2.2.2.2.2.2.2.2.2.2.2.1
def Zzy:=Ja.2.2.2.2.2.2.2.2.2.2.2.2.2
theorem J9:(∀(z:Int),∃r,Ul z=some r/\r.length<=37/\Hg r) /\
  (∀(z:Int) (C:DT),∃r,Z1f z C=some r/\True) /\
  (∀(z:AL),Bj z->∃r,mP z=some r/\(r.1.length<=60/\Ci r.1/\(r.2=0->1<=r.1.length))) /\
  (∀(z:Bd) (C:BB),DX z->CO C->∃r,YN z C=some r/\DX r.1) /\
  (∀(z C:Int),∃r,QX z C=some r/\Bv r) /\
  (∀(z:Be),CO z.BU->∃r,Z0T z=some r/\r.1.length<=257/\Ci r.1) /\
  (∀(z:Int) (C:List Int),C.length<=100000->Ci C->∃r,Z0U z C=some r/\r.length=C.length+3/\Ci r) /\
  (∀(z:Int) (C:List Int),C.length<=100000->∃r,oD z C=some r/\r.q0.length=C.length/\Ci r.q0) /\
  (∀(z:List BF) (C:Int),(z.length<=1/\FQ z)->∃r,Z2I z C=some r/\r.1.length<=1/\FQ r.1/\r.2.length<=1/\FQ r.2) /\
  (∀(k:Int) (z:Ac) (C:BF),BQ k z->Ku C->0<=k->k<=1000000->∃r,Z1o z C=some r/\BQ k r) /\
  (∀(z:Int) (C:BF),Ku C->∃r,YF z C=some r/\True) /\
  (∀(z:A7) (C:Int),BM z->∃r,Z0y z C=some r/\True) /\
  (∀(z:BC),∃r,qN z=some r/\True) /\
  (∀(z:Int) (C:List Int),C.length<=65536->Ci C->∃r,Z1v z C=some r/\r.1.length<=65536/\Ci r.1):=by
 refine⟨fun z=>BK (fun(p:aQ)=>match p with | .b0 ..=>True | .b1 _ A D=>0<=D/\D<=37/\(A.length:Int)<=D/\Hg A | .b2 _ A D=>0<=D/\D<=36/\(A.length:Int)<=D+1/\Hg A) (fun(p:aQ)=>match p with | .b0 ..=>(1,0,0) | .b1 _ _ D=>(0,(37 - D).toNat,1) | .b2 _ _ D=>(0,(37 - D).toNat,0)) ?_ _ ?_,
  fun z C=>BK (fun(p:Y8)=>True) (fun(p:Y8)=>(0,0,0)) ?_ _ ?_,
  fun z J=>BK (fun(p:X8)=>match p with | .b0 q=>Bj q | .b1 q A _=>Bj A/\1<=q.length/\q.length<=10/\Ci q | .b2 q A _=>Bj A/\1<=q.length/\q.length<=15/\Ci q | .b3 q A _=>Bj A/\1<=q.length/\q.length<=17/\Ci q | .b4 q A _=>Bj A/\1<=q.length/\q.length<=18/\Ci q | .b5 q A _=>Bj A/\1<=q.length/\q.length<=19/\Ci q | .b6 q A _=>Bj A/\1<=q.length/\q.length<=27/\Ci q | .b7 q A _=>Bj A/\1<=q.length/\q.length<=35/\Ci q | .b8 q A _=>Bj A/\1<=q.length/\q.length<=43/\Ci q | .b9 q A _=>Bj A/\1<=q.length/\q.length<=44/\Ci q) (fun(p:X8)=>match p with | .b0 ..=>(0,0,9) | .b1 ..=>(0,0,8) | .b2 ..=>(0,0,7) | .b3 ..=>(0,0,6) | .b4 ..=>(0,0,5) | .b5 ..=>(0,0,4) | .b6 ..=>(0,0,3) | .b7 ..=>(0,0,2) | .b8 ..=>(0,0,1) | .b9 ..=>(0,0,0)) ?_ _ ?_,
  fun z C J M=>BK (fun(p:YD)=>match p with | .b0 q A=>DX q/\CO A | .b1 q A _=>DX q/\CO A/\Eo A) (fun(p:YD)=>match p with | .b0 ..=>(0,0,1) | .b1 ..=>(0,0,0)) ?_ _ ?_,
  fun z C=>BK (fun(p:dJ)=>match p with | .b0 ..=>True | .b1 _ _ _ G=>0<=G/\G<=8) (fun(p:dJ)=>match p with | .b0 ..=>(1,0,0) | .b1 _ _ _ G=>(0,(8 - G).toNat,0)) ?_ _ ?_,
  fun z J=>BK (fun(p:Xh)=>match p with | .b0 q=>CO q.BU) (fun(p:Xh)=>(0,0,0)) ?_ _ ?_,
  fun z C J M=>BK (fun(p:Xd)=>match p with | .b0 _ A=>A=C) (fun(p:Xd)=>(0,0,0)) ?_ _ ?_,
  fun z C J=>BK (fun(p:YQ)=>match p with | .b0 _ A=>A=C | .b1 q A D G=>q=C/\q.length<=100000/\A.length=C.length/\0<=G/\G<=(q.length:Int)/\(D.length:Int)=G/\Ci D) (fun(p:YQ)=>match p with | .b0 ..=>(1,0,0) | .b1 q _ _ G=>(0,((q.length:Int) - G).toNat,0)) ?_ _ ?_,
  fun z C J=>BK (fun(p:dE)=>match p with | .b0 q _=>q.length<=1/\FQ q | .b1 q _ D G I=>q.length<=1/\FQ q/\D.length<=1/\FQ D/\G.length<=1/\FQ G/\0<=I/\I<=(q.length:Int)/\(D.length:Int)+(G.length:Int)<=I | .b2 q _ D G I=>q.length<=1/\FQ q/\D.length<=1/\FQ D/\G.length<=1/\FQ G/\0<=I/\I<(q.length:Int)/\(D.length:Int)+(G.length:Int)<=I+1) (fun(p:dE)=>match p with | .b0 ..=>(1,0,0) | .b1 q _ _ _ I=>(0,((q.length:Int) - I).toNat,1) | .b2 q _ _ _ I=>(0,((q.length:Int) - I).toNat,0)) ?_ _ ?_,
  fun k z C J M O Q=>BK (fun(p:Yc)=>match p with | .b0 q A=>BQ k q/\Ku A | .b1 q A _=>BQ k q/\Ku A) (fun(p:Yc)=>match p with | .b0 ..=>(0,0,1) | .b1 ..=>(0,0,0)) ?_ _ ?_,
  fun z C J=>BK (fun(p:YG)=>match p with | .b0 _ A=>Ku A | .b1 _ A=>Ku A) (fun(p:YG)=>match p with | .b0 ..=>(0,0,1) | .b1 ..=>(0,0,0)) ?_ _ ?_,
  fun z C J=>BK (fun(p:XG)=>match p with | .b0 q _=>BM q) (fun(p:XG)=>(0,0,0)) ?_ _ ?_,
  fun z=>BK (fun(p:bQ)=>True) (fun(p:bQ)=>(0,0,0)) ?_ _ ?_,
  fun z C J M=>BK (fun(p:Y0)=>match p with | .b0 _ A=>A.length<=65536/\Ci A) (fun(p:Y0)=>(0,0,0)) ?_ _ ?_⟩
 all_goals try (intro p hp;cases p)
 all_goals
  try dsimp only at hp
  try exact False.elim hp
  try have N:=hp
  try dsimp only[BQ,DX,BM,D5,CO,Eo,Eu,ES]at N
  try (repeat with_reducible (have S:=And.left hp;replace hp:=And.right hp))
  try simp only[Ou,Z9W,Z8P,YE,SH,Z9i,Z8S,Z9y,Zc4,Z9r,YX,Z8w,Z2O,Zag]
  try dsimp only
  repeat' first|(refine Ea ?_;dsimp only;try simp(disch:=omega) only[Bo,Bh,List.nil_append,List.drop_zero])|(refine FM (fun h=>?_) (fun h=>?_)<;>(try simp only[Fj,reduceCtorEq]at h;try simp(disch:=omega) only[Bo]at h))|refine Dl ?_ ?_|refine Gl ?_|refine Az (Zc2 _ _) fun(v:Bool) hm F=>?_|refine Az (Zt6 _) fun(v:Int) hm F=>?_|refine Az (ZoC _) fun(v:Int) hm F=>?_|refine Az (ZuR _) fun(v:Int) hm F=>?_|refine Az (Z18 _ ?_) fun(v:Int) hm F=>?_|refine Az (U2 _) fun(v:Bl) hm F=>?_|refine Az (ZkY _) fun(v:(List Int)) hm F=>?_|refine Az (Zcf _ _ ?_ ?_) fun(v:I8) hm F=>?_|refine Az (Z8o _) fun(v:Bool) hm F=>?_|refine Az (nU _) fun(v:Int) hm F=>?_|refine Az (Zte _ _ _) fun(v:Int) hm F=>?_|refine Az (Zy9 _ _ ?_) fun(v:Int) hm F=>?_|refine Az (Zuj _) fun(v:(List Int)) hm F=>?_|refine Az (Zmi _ _ ?_ ?_) fun(v:(List Int)) hm F=>?_|refine Qj ?_ fun v F=>?_|refine Az (Zpm _ _) fun(v:Bool) hm F=>?_|refine Z30 ?_ fun v F=>?_|refine Az (ZyF _ _) fun(v:Du) hm F=>?_|refine Az (Zup _ _ _) fun(v:Bool) hm F=>?_|refine Az (Z1L _) fun(v:Int) hm F=>?_|refine Az (Zav _) fun(v:Int) hm F=>?_|with_reducible apply And.intro|rfl|assumption|exact True.intro|omega|exact decide_eq_true (GN _).1|exact GL (by assumption) (by omega)|exact Gj (by assumption) (by omega)|(refine FY.2 ?_;first|omega|grind)|(apply Gh;first|omega|(simp only[Bh];omega))|(simp only[Dy,Bh,Cb,maxLen_eq,kL,kA]<;>omega)|(simp(disch:=omega) only[Bo,decide_eq_true_eq,bne_iff_ne,ne_eq];(repeat' split)<;>omega)|(simp[D8,Ey];done)|grind|(simp only[Dy,Bh,Cb,maxLen_eq,kL,kA]<;>grind)|grind [EI]
def Zbx:=J9.1
def Zti:=J9.2.1
def Zpz:=J9.2.2.1
def ZtJ:=J9.2.2.2.1
def Zy3:=J9.2.2.2.2.1
def ZqB:=J9.2.2.2.2.2.1
def Zq8:=J9.2.2.2.2.2.2.1
def ZqS:=J9.2.2.2.2.2.2.2.1
def Zyt:=J9.2.2.2.2.2.2.2.2.1
def ZqR:=J9.2.2.2.2.2.2.2.2.2.1
def Zsx:=J9.2.2.2.2.2.2.2.2.2.2.1
def Zn1:=J9.2.2.2.2.2.2.2.2.2.2.2.1
def ZxJ:=J9.2.2.2.2.2.2.2.2.2.2.2.2.1
def Zsr:=J9.2.2.2.2.2.2.2.2.2.2.2.2.2
theorem Qi:(∀(A:List BC),A.length<=37->∃r,nJ A=some r/\r.length<=37) /\
  (∀(A:List Int) (C:Int),0<=C->C+9<=(A.length:Int)->A.length<=1000000->∃r,ZH A C=some r/\True) /\
  (∀(A:A7) (C:AL),BM A->Bj C->∃r,Z29 A C=some r/\BM r.1/\r.2.length<=1) /\
  (∀(A:A7) (C:AL) (J:Int),BM A->Bj C->∃r,Zx A C J=some r/\BM r.1/\r.2.1.length<=8/\FB r.2.1/\r.2.2.length<=1) /\
  (∀(A:A7) (C:AL),BM A->Bj C->∃r,xW A C=some r/\BM r.1/\r.2.1.length<=8/\FB r.2.1/\r.2.2.length<=1) /\
  (∀(A:A7) (C:AL) (J:Int),BM A->Bj C->∃r,yO A C J=some r/\BM r.1/\r.2.1.length<=8/\FB r.2.1/\r.2.2.length<=1) /\
  (∀(A:A7) (C:AL),BM A->Bj C->∃r,zA A C=some r/\BM r.1/\r.2.1.length<=8/\FB r.2.1/\r.2.2.length<=1) /\
  (∀(A:A7) (C:AL),BM A->Bj C->∃r,ZB A C=some r/\BM r.1/\r.2.1.length<=8/\FB r.2.1/\r.2.2.length<=1):=by
 refine⟨fun A F=>BK (fun(p:YY)=>match p with | .b0 q=>q.length<=37 | .b1 q z D=>q.length<=37/\z.length<=37/\0<=D/\D<=(q.length:Int)/\(z.length:Int)=D) (fun(p:YY)=>match p with | .b0 ..=>(1,0,0) | .b1 q _ D=>(0,((q.length:Int) - D).toNat,0)) ?_ _ ?_,
  fun A C F G N=>BK (fun(p:Wj)=>match p with | .b0 q z=>0<=z/\z+9<=(q.length:Int)/\q.length<=1000000) (fun(p:Wj)=>(0,0,0)) ?_ _ ?_,
  fun A C F G=>BK (fun(p:aH)=>match p with | .b0 q z=>BM q/\Bj z | .b1 q z _=>BM q/\Bj z | .b2 q z _=>BM q/\Bj z | .b3 q _=>BM q) (fun(p:aH)=>match p with | .b0 ..=>(0,0,3) | .b1 ..=>(0,0,2) | .b2 ..=>(0,0,1) | .b3 ..=>(0,0,0)) ?_ _ ?_,
  fun A C J F G=>BK (fun(p:WY)=>match p with | .b0 q z _=>BM q/\Bj z | .b1 _ z D _=>BM z/\Bj D | .b2 _ z D _=>BM z/\Bj D | .b3 q z _=>BM q/\Bj z | .b4 _ z D _=>BM z/\Bj D | .b5 q _=>BM q | .b6 q _=>BM q | .b7 _ z D _=>BM z/\Bj D | .b8 _ z _=>BM z) (fun(p:WY)=>match p with | .b0 ..=>(0,0,4) | .b2 ..=>(0,0,3) | .b3 ..=>(0,0,1) | .b4 ..=>(0,0,2) | .b7 ..=>(0,0,1)|_=>(0,0,0)) ?_ _ ?_,
  fun A C F G=>BK (fun(p:WN)=>match p with | .b0 q z=>BM q/\Bj z | .b1 q _=>BM q | .b2 q z _=>BM q/\Bj z | .b3 q z _=>BM q/\Bj z) (fun(p:WN)=>match p with | .b0 ..=>(0,0,2) | .b2 ..=>(0,0,1)|_=>(0,0,0)) ?_ _ ?_,
  fun A C J F G=>BK (fun(p:WT)=>match p with | .b0 q z _=>BM q/\Bj z) (fun(p:WT)=>(0,0,0)) ?_ _ ?_,
  fun A C F G=>BK (fun(p:WV)=>match p with | .b0 q z=>BM q/\Bj z | .b1 q _=>BM q | .b2 q z _=>BM q/\Bj z) (fun(p:WV)=>match p with | .b0 ..=>(0,0,1)|_=>(0,0,0)) ?_ _ ?_,
  fun A C F G=>BK (fun(p:Wp)=>match p with | .b0 q z=>BM q/\Bj z | .b1 q z _=>BM q/\Bj z | .b2 q z _=>BM q/\Bj z | .b3 q _=>BM q | .b4 q _=>BM q) (fun(p:Wp)=>match p with | .b0 ..=>(0,0,2) | .b2 ..=>(0,0,1)|_=>(0,0,0)) ?_ _ ?_⟩
 all_goals try (intro p hp;cases p)
 all_goals
  try dsimp only at hp
  try exact False.elim hp
  try have M:=hp
  try dsimp only[BQ,DX,BM,D5,CO,Eo,Eu,ES]at M
  try (repeat with_reducible (have O:=And.left hp;replace hp:=And.right hp))
  try simp only[Ub,Z6H,ZaC,Z6G,Z6e,Z6g,Z6m,Z6X]
  try dsimp only
  repeat' first|(refine Ea ?_;dsimp only;try simp(disch:=omega) only[Bo,Bh,List.nil_append,List.drop_zero])|(refine FM (fun h=>?_) (fun h=>?_)<;>(try simp only[Fj,reduceCtorEq]at h;try simp(disch:=omega) only[Bo]at h))|refine Dl ?_ ?_|refine Gl ?_|refine Az (Z1L _) fun(v:Int) hm I=>?_|refine Z3x ?_ fun v I=>?_|refine Az (Z2q _ _ _ ?_ ?_ ?_ ?_ ?_) fun(v:Int) hm I=>?_|refine Az (Zaf _) fun(v:Bool) hm I=>?_|refine Az (Zv9 _ _) fun(v:(List BD)) hm I=>?_|refine Az (Z2l _) fun(v:(List AL)) hm I=>?_|with_reducible apply And.intro|rfl|assumption|exact True.intro|omega|exact decide_eq_true (GN _).1|exact GL (by assumption) (by omega)|exact Gj (by assumption) (by omega)|(refine FY.2 ?_;first|omega|grind)|(apply Gh;first|omega|(simp only[Bh];omega))|(simp only[Dy,Bh,Cb,maxLen_eq,kL,kA]<;>omega)|(simp(disch:=omega) only[Bo,decide_eq_true_eq,bne_iff_ne,ne_eq];(repeat' split)<;>omega)|(simp[D8,Ey];done)|grind|(simp only[Dy,Bh,Cb,maxLen_eq,kL,kA]<;>grind)|grind [EI]
def ZrL:=Qi.1
def Z6T:=Qi.2.1
def ZvX:=Qi.2.2.1
def Zk0:=Qi.2.2.2.1
def Zi8:=Qi.2.2.2.2.1
def ZiY:=Qi.2.2.2.2.2.1
def ZiR:=Qi.2.2.2.2.2.2.1
def ZkA:=Qi.2.2.2.2.2.2.2
theorem ZvQ:∀(z:Int),∃r,oJ z=some r/\(∃u,EF z=some u/\r=Gw u/\D8 u):=by
 refine fun z=>BK (fun(p:Yj)=>match p with | .b0 q=>q=z | .b1 q a1=>D8 a1/\EF z=some a1/\q=1+cond a1.BG 9 0 | .b2 q a1=>D8 a1/\EF z=some a1/\q=1+cond a1.BG 9 0+cond a1.Map 5 0 | .b3 q a1=>D8 a1/\EF z=some a1/\q=1+cond a1.BG 9 0+cond a1.Map 5 0+cond a1.CP 2 0 | .b4 q a1=>D8 a1/\EF z=some a1/\q=1+cond a1.BG 9 0+cond a1.Map 5 0+cond a1.CP 2 0/\(a1.Bq||a1.Version||a1.Length)=true | .b5 q a1=>D8 a1/\EF z=some a1/\q=1+cond a1.BG 9 0+cond a1.Map 5 0+cond a1.CP 2 0+cond (a1.Bq||a1.Version||a1.Length) 1 0 | .b6 q a1=>D8 a1/\EF z=some a1/\q=1+cond a1.BG 9 0+cond a1.Map 5 0+cond a1.CP 2 0+cond (a1.Bq||a1.Version||a1.Length) 1 0+cond a1.Dx 1 0 | .b7 q a1=>D8 a1/\EF z=some a1/\q=1+cond a1.BG 9 0+cond a1.Map 5 0+cond a1.CP 2 0+cond (a1.Bq||a1.Version||a1.Length) 1 0+cond a1.Dx 1 0/\(a1.CE||a1.DK)=true | .b8 q a1=>D8 a1/\EF z=some a1/\q=1+cond a1.BG 9 0+cond a1.Map 5 0+cond a1.CP 2 0+cond (a1.Bq||a1.Version||a1.Length) 1 0+cond a1.Dx 1 0+cond (a1.CE||a1.DK) 8 0) (fun(p:Yj)=>match p with | .b0 ..=>(0,0,8) | .b1 ..=>(0,0,7) | .b2 ..=>(0,0,6) | .b3 ..=>(0,0,5) | .b4 ..=>(0,0,4) | .b5 ..=>(0,0,3) | .b6 ..=>(0,0,2) | .b7 ..=>(0,0,1) | .b8 ..=>(0,0,0)) ?_ _ ?_
 all_goals try (intro p hp;cases p)
 case' b0=>
  dsimp only at hp;have A:=hp
  try dsimp only[BQ,DX,BM,D5,CO,Eo,Eu,ES]at A
  simp only[oM];subst hp;refine Az (U2 _) (fun(v:Bl) hm F=>?_);clear A;simp only[D8,Ey,List.mem_cons,List.not_mem_nil,or_false]at F;rcases F with rfl|rfl|rfl|rfl|rfl|rfl|rfl|rfl|rfl|rfl|rfl|rfl|rfl<;>simp only[Gw,cond_true,cond_false,Bool.or_true,Bool.true_or,Bool.or_false,Bool.false_or,Bool.or_self,reduceCtorEq,and_false]at *<;>repeat' first|(refine FM (fun h=>?_) (fun h=>?_)<;>(try simp only[Fj,reduceCtorEq]at h;try simp(disch:=omega) only[Bo]at h))|(refine Ea ?_;dsimp only;exact⟨⟨by simp[D8,Ey],hm,by simp only[Gw,cond_true,cond_false,Bool.or_true,Bool.true_or,Bool.or_false,Bool.false_or,Bool.or_self,reduceCtorEq,and_false]at *<;>omega⟩,FY.2 (by omega)⟩)
 case' b1|b2|b3|b4|b5|b6|b7|b8=>
  dsimp only at hp;have A:=hp
  try dsimp only[BQ,DX,BM,D5,CO,Eo,Eu,ES]at A
  simp only[oM];have D:=hp.1;have C:=hp.2.1;have G:=hp.2.2;clear hp A;simp only[D8,Ey,List.mem_cons,List.not_mem_nil,or_false]at D;rcases D with rfl|rfl|rfl|rfl|rfl|rfl|rfl|rfl|rfl|rfl|rfl|rfl|rfl<;>simp only[Gw,cond_true,cond_false,Bool.or_true,Bool.true_or,Bool.or_false,Bool.false_or,Bool.or_self,reduceCtorEq,and_false]at *<;>repeat' first|(refine FM (fun h=>?_) (fun h=>?_)<;>(try simp only[Fj,reduceCtorEq]at h;try simp(disch:=omega) only[Bo]at h))|(refine Ea ?_;dsimp only;(try simp(disch:=omega) only[Bo]);first|exact⟨⟨by simp[D8,Ey],C,by simp only[Gw,cond_true,cond_false,Bool.or_true,Bool.true_or,Bool.or_false,Bool.false_or,Bool.or_self,reduceCtorEq,and_false]at *<;>first|omega|exact⟨by omega,by first|trivial|rfl⟩⟩,FY.2 (by omega)⟩|exact⟨_,C,by simp only[Gw,cond_true,cond_false,Bool.or_true,Bool.true_or,Bool.or_false,Bool.false_or,Bool.or_self,reduceCtorEq,and_false]at *<;>omega,by simp[D8,Ey]⟩)
 all_goals
  try dsimp only at hp
  try exact False.elim hp
  try have A:=hp
  try dsimp only[BQ,DX,BM,D5,CO,Eo,Eu,ES]at A
  try (repeat with_reducible (have I:=And.left hp;replace hp:=And.right hp))
  try simp only[oM]
  try dsimp only
  repeat' first|(refine Ea ?_;dsimp only;try simp(disch:=omega) only[Bo,Bh,List.nil_append,List.drop_zero])|(refine FM (fun h=>?_) (fun h=>?_)<;>(try simp only[Fj,reduceCtorEq]at h;try simp(disch:=omega) only[Bo]at h))|refine Dl ?_ ?_|refine Gl ?_|with_reducible apply And.intro|rfl|assumption|exact True.intro|omega|exact decide_eq_true (GN _).1|exact GL (by assumption) (by omega)|exact Gj (by assumption) (by omega)|(refine FY.2 ?_;first|omega|grind)|(apply Gh;first|omega|(simp only[Bh];omega))|(simp only[Dy,Bh,Cb,maxLen_eq,kL,kA]<;>omega)|(simp(disch:=omega) only[Bo,decide_eq_true_eq,bne_iff_ne,ne_eq];(repeat' split)<;>omega)|(simp[D8,Ey];done)|grind|(simp only[Dy,Bh,Cb,maxLen_eq,kL,kA]<;>grind)|grind [EI]
theorem ZtM:∀(C:Bd) (D:Be),DX C->CO D.BU->∃r,Z1O C D=some r/\DX r.1/\CO r.2.1:=by
 refine fun C D I J=>BK (fun(p:Yp)=>match p with | .b0 A q=>DX A/\CO q.BU | .b1 A q _ _=>DX A/\CO q.BU | .b2 _ q z _ _=>DX q/\CO z.BU | .b3 _ q z _ _=>DX q/\CO z.BU/\0<q.Aq.length | .b4 _ q z _ _=>CO z.BU/\DX { q with Open:=false } | .b5 _ q _ _=>DX q) (fun(p:Yp)=>match p with | .b0 ..=>(0,0,5) | .b1 ..=>(0,0,4) | .b2 ..=>(0,0,1) | .b3 ..=>(0,0,3) | .b4 ..=>(0,0,2) | .b5 ..=>(0,0,0)) ?_ _ ?_
 all_goals try (intro p hp;cases p)
 all_goals
  try dsimp only at hp
  try exact False.elim hp
  try have G:=hp
  try dsimp only[BQ,DX,BM,D5,CO,Eo,Eu,ES]at G
  try (repeat with_reducible (have M:=And.left hp;replace hp:=And.right hp))
  try simp only[Zbs]
  try dsimp only
  repeat' first|(refine Ea ?_;dsimp only;try simp(disch:=omega) only[Bo,Bh,List.nil_append,List.drop_zero])|(refine FM (fun h=>?_) (fun h=>?_)<;>(try simp only[Fj,reduceCtorEq]at h;try simp(disch:=omega) only[Bo]at h))|refine Dl ?_ ?_|refine Gl ?_|refine Az (nU _) fun(v:Int) hm F=>?_|refine Az (Z8o _) fun(v:Bool) hm F=>?_|with_reducible apply And.intro|rfl|assumption|exact True.intro|omega|exact decide_eq_true (GN _).1|exact GL (by assumption) (by omega)|exact Gj (by assumption) (by omega)|(refine FY.2 ?_;first|omega|grind)|(apply Gh;first|omega|(simp only[Bh];omega))|(simp only[Dy,Bh,Cb,maxLen_eq,kL,kA]<;>omega)|(simp(disch:=omega) only[Bo,decide_eq_true_eq,bne_iff_ne,ne_eq];(repeat' split)<;>omega)|(simp[D8,Ey];done)|grind|(simp only[Dy,Bh,Cb,maxLen_eq,kL,kA]<;>grind)|grind [EI]
theorem Zrq:∀(G:AL) (I:List Int),Bj G->(∃u,EF G.Kind=some u/\(I.length:Int)=Gw u/\D8 u)->I.length<=65536->∃r,Z1J G I=some r/\Bj r:=by
 refine fun G I Y J Q=>BK (fun(p:Xq)=>match p with | .b0 z A=>Bj z/\z.Kind=G.Kind/\A=I | .b1 z A C _ q=>Bj C/\D8 q/\(z.length:Int)=Gw q/\A=1+cond q.BG 9 0/\z.length<=65536 | .b2 z A C _ q=>Bj C/\D8 q/\(z.length:Int)=Gw q/\A=1+cond q.BG 9 0+cond q.Map 5 0/\z.length<=65536 | .b3 z A C _ q=>Bj C/\D8 q/\(z.length:Int)=Gw q/\A=1+cond q.BG 9 0+cond q.Map 5 0/\z.length<=65536 | .b4 z A C _ q=>Bj C/\D8 q/\(z.length:Int)=Gw q/\A=1+cond q.BG 9 0+cond q.Map 5 0+cond q.Bq 1 0/\z.length<=65536 | .b5 z A C _ q=>Bj C/\D8 q/\(z.length:Int)=Gw q/\A=1+cond q.BG 9 0+cond q.Map 5 0+cond q.Bq 1 0/\z.length<=65536 | .b6 z A C _ q=>Bj C/\D8 q/\(z.length:Int)=Gw q/\A=1+cond q.BG 9 0+cond q.Map 5 0+cond q.Bq 1 0+cond q.CE 8 0/\z.length<=65536 | .b7 z A C _ q=>Bj C/\D8 q/\(z.length:Int)=Gw q/\A=1+cond q.BG 9 0+cond q.Map 5 0+cond q.Bq 1 0+cond q.CE 8 0/\z.length<=65536 | .b8 z A C _ q=>Bj C/\D8 q/\(z.length:Int)=Gw q/\A=1+cond q.BG 9 0+cond q.Map 5 0+cond q.Bq 1 0+cond q.CE 8 0/\z.length<=65536 | .b9 z A C _ q=>Bj C/\D8 q/\(z.length:Int)=Gw q/\A=1+cond q.BG 9 0+cond q.Map 5 0+cond q.Bq 1 0+cond q.CE 8 0/\z.length<=65536) (fun(p:Xq)=>match p with | .b0 ..=>(0,0,9) | .b1 ..=>(0,0,8) | .b2 ..=>(0,0,7) | .b3 ..=>(0,0,6) | .b4 ..=>(0,0,5) | .b5 ..=>(0,0,4) | .b6 ..=>(0,0,3) | .b7 ..=>(0,0,2) | .b8 ..=>(0,0,1) | .b9 ..=>(0,0,0)) ?_ _ ?_
 all_goals try (intro p hp;cases p)
 case' b0=>
  dsimp only at hp;have D:=hp
  try dsimp only[BQ,DX,BM,D5,CO,Eo,Eu,ES]at D
  simp only[mZ];obtain⟨S,N,rfl⟩:=hp;obtain⟨u,J,Q,M⟩:=J;refine dV (N▸J) ?_;clear D J N;simp only[D8,Ey,List.mem_cons,List.not_mem_nil,or_false]at M;rcases M with rfl|rfl|rfl|rfl|rfl|rfl|rfl|rfl|rfl|rfl|rfl|rfl|rfl<;>simp only[Gw,cond_true,cond_false,Bool.or_true,Bool.true_or,Bool.or_false,Bool.false_or,Bool.or_self,reduceCtorEq,and_false]at *<;>repeat' first|(refine FM (fun h=>?_) (fun h=>?_)<;>(try simp only[Fj,reduceCtorEq]at h;try simp(disch:=omega) only[Bo]at h))|(refine Az (Z2q _ _ _ (by omega) (by omega) (by omega) (by omega) (by omega)) (fun(v:Int) hm F=>?_))|(refine Qj ?_ (fun v F=>?_))|(refine Az (Z6T _ _ (by omega) (by omega) (by omega)) (fun(v:DT) hm F=>?_))|(refine Ea ?_;dsimp only;(try simp(disch:=omega) only[Bo]);first|exact⟨⟨by grind,by simp[D8,Ey],by first|omega|(simp only[Gw,cond_true,cond_false,Bool.or_true,Bool.true_or,Bool.or_false,Bool.false_or,Bool.or_self,reduceCtorEq,and_false]at *<;>omega),by first|omega|(simp only[Gw,cond_true,cond_false,Bool.or_true,Bool.true_or,Bool.or_false,Bool.false_or,Bool.or_self,reduceCtorEq,and_false]at *<;>omega),by omega⟩,FY.2 (by omega)⟩|grind)
 case' b1|b2|b3|b4|b5|b6|b7|b8|b9=>
  dsimp only at hp;have D:=hp
  try dsimp only[BQ,DX,BM,D5,CO,Eo,Eu,ES]at D
  simp only[mZ];have hc:=hp.1;have O:=hp.2.1;have hl:=hp.2.2.1;have ha:=hp.2.2.2.1;have hs:=hp.2.2.2.2;clear hp D;simp only[D8,Ey,List.mem_cons,List.not_mem_nil,or_false]at O;rcases O with rfl|rfl|rfl|rfl|rfl|rfl|rfl|rfl|rfl|rfl|rfl|rfl|rfl<;>simp only[Gw,cond_true,cond_false,Bool.or_true,Bool.true_or,Bool.or_false,Bool.false_or,Bool.or_self,reduceCtorEq,and_false]at *<;>repeat' first|(refine FM (fun h=>?_) (fun h=>?_)<;>(try simp only[Fj,reduceCtorEq]at h;try simp(disch:=omega) only[Bo]at h))|(refine Dl ?_ ?_)|(refine Az (Z2q _ _ _ (by omega) (by omega) (by omega) (by omega) (by omega)) (fun(v:Int) hm F=>?_))|(refine Qj ?_ (fun v F=>?_))|(refine Az (Z6T _ _ (by omega) (by omega) (by omega)) (fun(v:DT) hm F=>?_))|(refine Ea ?_;dsimp only;(try simp(disch:=omega) only[Bo]);first|exact⟨⟨by grind,by simp[D8,Ey],by first|omega|(simp only[Gw,cond_true,cond_false,Bool.or_true,Bool.true_or,Bool.or_false,Bool.false_or,Bool.or_self,reduceCtorEq,and_false]at *<;>omega),by first|omega|(simp only[Gw,cond_true,cond_false,Bool.or_true,Bool.true_or,Bool.or_false,Bool.false_or,Bool.or_self,reduceCtorEq,and_false]at *<;>omega),by omega⟩,FY.2 (by omega)⟩|grind)
 all_goals
  try dsimp only at hp
  try exact False.elim hp
  try have D:=hp
  try dsimp only[BQ,DX,BM,D5,CO,Eo,Eu,ES]at D
  try (repeat with_reducible (have S:=And.left hp;replace hp:=And.right hp))
  try simp only[mZ]
  try dsimp only
  repeat' first|(refine Ea ?_;dsimp only;try simp(disch:=omega) only[Bo,Bh,List.nil_append,List.drop_zero])|(refine FM (fun h=>?_) (fun h=>?_)<;>(try simp only[Fj,reduceCtorEq]at h;try simp(disch:=omega) only[Bo]at h))|refine Dl ?_ ?_|refine Gl ?_|with_reducible apply And.intro|rfl|assumption|exact True.intro|omega|exact decide_eq_true (GN _).1|exact GL (by assumption) (by omega)|exact Gj (by assumption) (by omega)|(refine FY.2 ?_;first|omega|grind)|(apply Gh;first|omega|(simp only[Bh];omega))|(simp only[Dy,Bh,Cb,maxLen_eq,kL,kA]<;>omega)|(simp(disch:=omega) only[Bo,decide_eq_true_eq,bne_iff_ne,ne_eq];(repeat' split)<;>omega)|(simp[D8,Ey];done)|grind|(simp only[Dy,Bh,Cb,maxLen_eq,kL,kA]<;>grind)|grind [EI]
theorem OD:(∀(C:Int),∃r,Ud C=some r/\0<=r/\r<=37) /\
  (∀(C F:Int),∃r,qC C F=some r/\True) /\
  (∀(k:Int) (C:Ac),BQ k C->0<=k->k<=1000000->∃r,Z19 C=some r/\BQ k r) /\
  (∀(C F I:Int),0<=I->I<=100000->∃r,mQ C F I=some r/\(r.length:Int)=I/\Ci r) /\
  (∀(C:Int) (F:List Int),F.length<=1000000->∃r,SE C F=some r/\Bv r) /\
  (∀(C:A7) (F:Int),BM C->∃r,Z2K C F=some r/\BM r.1/\r.2.length<=1/\FQ r.2) /\
  (∀(C:List BF) (F:Int) (I:BF),(C.length<=1/\FQ C)->Ku I->∃r,VB C F I=some r/\r.1.length<=1/\FQ r.1) /\
  (∀(k:Int) (C:Ac) (F:BB),BQ k C->CO F->0<=k->k<=1000000->∃r,o9 C F=some r/\BQ k r.1) /\
  (∀(C:List BC) (F:List Int),C.length<=37->F.length<=37->∃r,nT C F=some r/\r<(F.length:Int)) /\
  (∀(C:List Int),C.length<=65536->Ci C->∃r,mO C=some r/\(Bj r.1/\(r.2=0->CV r.1)/\(r.2=12->1<=C.length))):=by
 refine⟨fun C=>BK (fun(p:Xy)=>True) (fun(p:Xy)=>(0,0,0)) ?_ _ ?_,
  fun C F=>BK (fun(p:bZ)=>match p with | .b0 ..=>True | .b1 q z=>0<=q/\q<(z.length:Int)) (fun(p:bZ)=>match p with | .b0 ..=>(0,0,1) | .b1 ..=>(0,0,0)) ?_ _ ?_,
  fun k C J N Q=>BK (fun(p:Yd)=>match p with | .b0 q=>BQ k q | .b1 q _ A D _=>FB q/\BQ k D/\0<=A/\A<=(D.Aw.length:Int)/\(q.length:Int)<=A | .b2 q _ A D _ O=>FB q/\BQ k D/\CV O/\0<=A/\A<(D.Aw.length:Int)/\(q.length:Int)<=A | .b3 q _ A D _ O=>FB q/\BQ k D/\CV O/\0<=A/\A<(D.Aw.length:Int)/\(q.length:Int)<=A | .b4 q _ A D _=>FB q/\BQ k D/\0<=A/\A<(D.Aw.length:Int)/\(q.length:Int)<=A+1) (fun(p:Yd)=>match p with | .b0 ..=>(1,0,0) | .b1 _ _ A D _=>(0,((D.Aw.length:Int) - A).toNat,2) | .b2 _ _ A D _ _=>(0,((D.Aw.length:Int) - A).toNat,1) | .b3 _ _ A D _ _=>(0,((D.Aw.length:Int) - A).toNat,1) | .b4 _ _ A D _=>(0,((D.Aw.length:Int) - A).toNat,0)) ?_ _ ?_,
  fun C F I J N=>BK (fun(p:Xg)=>match p with | .b0 _ _ A=>A=I/\0<=A/\A<=100000 | .b1 _ z A _ M=>z=I/\0<=z/\z<=100000/\0<=M/\(A.length:Int)=8*M/\8*M<=z+8/\Ci A) (fun(p:Xg)=>match p with | .b0 ..=>(1,0,0) | .b1 _ z _ _ M=>(0,(z+8 - 8*M).toNat,0)) ?_ _ ?_,
  fun C F J=>BK (fun(p:dD)=>match p with | .b0 _ z=>z.length<=1000000 | .b1 _ z A D=>0<=D/\D<=(z.length:Int)+8/\z.length<=1000000/\Bv A) (fun(p:dD)=>match p with | .b0 ..=>(1,0,0) | .b1 _ z _ D=>(0,((z.length:Int)+8 - D).toNat,0)) ?_ _ ?_,
  fun C F J=>BK (fun(p:bH)=>match p with | .b0 q _=>BM q | .b1 q _=>BM q | .b2 q z _=>q.length<=1/\FQ q/\BM z | .b3 q z A _=>q.length<=1/\FQ q/\BM A/\0<=z/\z<=(q.length:Int) | .b4 q z A _=>q.length<=1/\FQ q/\BM A/\0<=z/\z<(q.length:Int) | .b5 q z A _=>q.length<=1/\FQ q/\BM A/\0<=z/\z<(q.length:Int)) (fun(p:bH)=>match p with | .b0 ..=>(2,0,0) | .b1 ..=>(1,0,0) | .b2 ..=>(1,0,1) | .b3 q z _ _=>(0,((q.length:Int) - z).toNat,3) | .b4 q z _ _=>(0,((q.length:Int) - z).toNat,2) | .b5 q z _ _=>(0,((q.length:Int) - z).toNat,1)) ?_ _ ?_,
  fun C F I J N=>BK (fun(p:dH)=>match p with | .b0 q _ A=>q.length<=1/\FQ q/\Ku A) (fun(p:dH)=>(0,0,0)) ?_ _ ?_,
  fun k C F J N Q Y=>BK (fun(p:aF)=>match p with | .b0 q z=>BQ k q/\CO z | .b1 q z _=>BQ k q/\CO z) (fun(p:aF)=>match p with | .b0 ..=>(0,0,1) | .b1 ..=>(0,0,0)) ?_ _ ?_,
  fun C F J N=>BK (fun(p:YW)=>match p with | .b0 q z=>q.length<=37/\z=F/\z.length<=37 | .b1 q z A D=>q.length<=37/\z=F/\z.length<=37/\A<(z.length:Int)/\0<=D/\D<=(z.length:Int) | .b2 q z A D=>q.length<=37/\z=F/\z.length<=37/\A<(z.length:Int)/\0<=D/\D<(z.length:Int) | .b3 q z A=>q.length<=37/\z=F/\z.length<=37/\A<(z.length:Int)/\0<=A) (fun(p:YW)=>match p with | .b0 ..=>(1,0,0) | .b1 _ z _ D=>(0,((z.length:Int) - D).toNat,2) | .b2 _ z _ D=>(0,((z.length:Int) - D).toNat,0) | .b3 _ z A=>(0,((z.length:Int) - A).toNat,1)) ?_ _ ?_,
  fun C J N=>BK (fun(p:X4)=>match p with | .b0 q=>q=C/\q.length<=65536/\Ci q) (fun(p:X4)=>(0,0,0)) ?_ _ ?_⟩
 all_goals try (intro p hp;cases p)
 all_goals
  try dsimp only at hp
  try exact False.elim hp
  try have S:=hp
  try dsimp only[BQ,DX,BM,D5,CO,Eo,Eu,ES]at S
  try (repeat with_reducible (have hq:=And.left hp;replace hp:=And.right hp))
  try simp only[Z1N,Zc5,Z9G,Z92,Um,ZcG,Z2y,aI,Nr,Z93]
  try dsimp only
  repeat' first|(refine Ea ?_;dsimp only;try simp(disch:=omega) only[Bo,Bh,List.nil_append,List.drop_zero])|(refine FM (fun h=>?_) (fun h=>?_)<;>(try simp only[Fj,reduceCtorEq]at h;try simp(disch:=omega) only[Bo]at h))|refine Dl ?_ ?_|refine Gl ?_|refine Az (Zbx _) fun(v:(List Int)) hm G=>?_|refine ZdY ?_ fun v G=>?_|refine Az (ZrD _ ?_) fun(v:Bool) hm G=>?_|refine Az (Zna _) fun(v:Bool) hm G=>?_|refine Z31 ?_ fun v G=>?_|refine Az (Zpz _ ?_) fun(v:((List Int)×Int)) hm G=>?_|refine Az (ZtJ _ _ ?_ ?_) fun(v:(Bd×Int)) hm G=>?_|refine Az (Zy3 _ _) fun(v:Int) hm G=>?_|refine Az (Z2W _ _ ?_ ?_) fun(v:KN) hm G=>?_|refine Az (ZrP _ ?_) fun(v:Int) hm G=>?_|refine Az (Zyt _ _ ?_) fun(v:((List BF)×(List BF))) hm G=>?_|refine Z30 ?_ fun v G=>?_|refine Az (Zsx _ _ ?_) fun(v:Int) hm G=>?_|refine Az (nU _) fun(v:Int) hm G=>?_|refine Az (ZzE _ _ ?_) fun(v:BC) hm G=>?_|refine Az (ZxJ _) fun(v:Bool) hm G=>?_|refine Az (Zav _) fun(v:Int) hm G=>?_|refine Az (U2 _) fun(v:Bl) hm G=>?_|refine Az (ZvQ _) fun(v:Int) hm G=>?_|refine Az (Zrq _ _ ?_ ?_ ?_) fun(v:AL) hm G=>?_|refine Az (Z18 _ ?_) fun(v:Int) hm G=>?_|refine Qj ?_ fun v G=>?_|(exact ZzU (by assumption) (by assumption))|with_reducible apply And.intro|rfl|assumption|exact True.intro|omega|exact decide_eq_true (GN _).1|exact GL (by assumption) (by omega)|exact Gj (by assumption) (by omega)|(refine FY.2 ?_;first|omega|grind)|(apply Gh;first|omega|(simp only[Bh];omega))|(simp only[Dy,Bh,Cb,maxLen_eq,kL,kA]<;>omega)|(simp(disch:=omega) only[Bo,decide_eq_true_eq,bne_iff_ne,ne_eq];(repeat' split)<;>omega)|(simp[D8,Ey];done)|grind|(simp only[Dy,Bh,Cb,maxLen_eq,kL,kA]<;>grind)|grind [EI]
def Zri:=OD.1
def ZyG:=OD.2.1
def ZsM:=OD.2.2.1
def Zqm:=OD.2.2.2.1
def ZyC:=OD.2.2.2.2.1
def Zyb:=OD.2.2.2.2.2.1
def ZyX:=OD.2.2.2.2.2.2.1
def ZtX:=OD.2.2.2.2.2.2.2.1
def Zsh:=OD.2.2.2.2.2.2.2.2.1
def Z9h:=OD.2.2.2.2.2.2.2.2.2
theorem PO:(∀(q:Int),∃r,Xx q=some r/\True) /\
  (∀(q C F:Int),∃r,Z2E q C F=some r/\True) /\
  (∀(q C:Int),∃r,Z1k q C=some r/\True) /\
  (∀(q C:Int) (F I:List Int),F.length<=200000->I.length<=200000->∃r,pX q C F I=some r/\r.length=4/\Ci r) /\
  (∀(q:A7) (C:AL) (F I:Int),BM q->CV C->R16 F->∃r,YR q C F I=some r/\BM r.1/\CV r.2/\r.1.Aa=q.Aa) /\
  (∀(q:Int) (C:ByteArray) (F:List Int),Vf U 5 C=true->(J7 U 5 C).length<=100->F.length<=1000->∃r,mG q C F=some r/\Bv r) /\
  (∀(q:List BC) (C F:Int),q.length<=37->∃r,lV q C F=some r/\Bv r) /\
  (∀(k:Int) (q:Ac) (C:BB),BQ k q->CO C->0<=k->k<=1000000->∃r,Z17 q C=some r/\BQ k r.1/\r.2.length<=1) /\
  (∀(q:A7) (C:AL) (F I:Int),BM q->Bj C->∃r,zF q C F I=some r/\BM r):=by
 refine⟨fun q=>BK (fun(p:YH)=>True) (fun(p:YH)=>(0,0,0)) ?_ _ ?_,
  fun q C F=>BK (fun(p:dM)=>True) (fun(p:dM)=>(0,0,0)) ?_ _ ?_,
  fun q C=>BK (fun(p:YT)=>True) (fun(p:YT)=>(0,0,0)) ?_ _ ?_,
  fun q C F I M N=>BK (fun(p:aX)=>match p with | .b0 _ _ G J=>G.length<=200000/\J.length<=200000) (fun(p:aX)=>(0,0,0)) ?_ _ ?_,
  fun q C F I M N O=>BK (fun(p:Y5)=>match p with | .b0 z A G _=>BM z/\CV A/\z=q/\R16 G | .b1 z A G _ _=>BM A/\CV G/\(A.Aa=q.Aa/\R16 z/\(G.Kind=0\/G.Kind=1)) | .b2 z A G _ _=>BM A/\CV G/\A.Aa=q.Aa/\z=G.Kind | .b3 z A _ _=>BM z/\CV A/\z.Aa=q.Aa | .b4 z A _ _=>BM z/\CV A/\z.Aa=q.Aa | .b5 z A _ _=>BM z/\CV A/\z.Aa=q.Aa) (fun(p:Y5)=>match p with | .b0 ..=>(0,0,4) | .b1 ..=>(0,0,3) | .b3 ..=>(0,0,2) | .b4 ..=>(0,0,0)|_=>(0,0,1)) ?_ _ ?_,
  fun q C F M N O=>BK (fun(p:Xl)=>match p with | .b0 _ A G=>Vf U 5 A=true/\(J7 U 5 A).length<=100/\G.length<=1000 | .b1 _ A G J=>A.length<=1000/\0<=J/\J<=(A.length:Int)/\(G.length:Int)<=101+8*J) (fun(p:Xl)=>match p with | .b0 ..=>(1,0,0) | .b1 _ A _ J=>(0,((A.length:Int) - J).toNat,0)) ?_ _ ?_,
  fun q C F M=>BK (fun(p:XV)=>match p with | .b0 z _ _=>z.length<=37 | .b1 z _ G=>z.length<=37/\G.length<=37/\Hg G | .b2 z=>z.length<=37/\Hg z) (fun(p:XV)=>match p with | .b0 ..=>(1,0,0) | .b1 _ _ G=>(0,G.length,1) | .b2 ..=>(0,0,0)) ?_ _ ?_,
  fun k q C M N O S=>BK (fun(p:YO)=>match p with | .b0 z A=>BQ k z/\CO A | .b1 z A _=>BQ k z/\CO A | .b2 z A _=>z.length<=1/\BQ k A) (fun(p:YO)=>match p with | .b0 ..=>(0,0,2) | .b1 ..=>(0,0,1) | .b2 ..=>(0,0,0)) ?_ _ ?_,
  fun q C F I M N=>BK (fun(p:WO)=>match p with | .b0 z A _ _=>BM z/\Bj A | .b1 z _=>BM z) (fun(p:WO)=>match p with | .b0 ..=>(0,0,1) | .b1 ..=>(0,0,0)) ?_ _ ?_⟩
 all_goals try (intro p hp;cases p)
 all_goals
  try dsimp only at hp
  try exact False.elim hp
  try have Q:=hp
  try dsimp only[BQ,DX,BM,D5,CO,Eo,Eu,ES]at Q
  try (repeat with_reducible (have Y:=And.left hp;replace hp:=And.right hp))
  try simp only[Z1p,ZcE,Z9A,Zcx,NC,U5,Me,Z9u,Z68]
  try dsimp only
  repeat' first|(refine Ea ?_;dsimp only;try simp(disch:=omega) only[Bo,Bh,List.nil_append,List.drop_zero])|(refine FM (fun h=>?_) (fun h=>?_)<;>(try simp only[Fj,reduceCtorEq]at h;try simp(disch:=omega) only[Bo]at h))|refine Dl ?_ ?_|refine Gl ?_|refine Az (Z1x _ ?_ ?_) fun(v:Int) hm D=>?_|refine Az (Zri _) fun(v:Int) hm D=>?_|refine Az (Z9C _) fun(v:Int) hm D=>?_|refine Az (Z90 _ _) fun(v:Int) hm D=>?_|refine Az (Zc2 _ _) fun(v:Bool) hm D=>?_|refine Az (ZyG _ _) fun(v:Int) hm D=>?_|refine Az (Ztq _ _ _ ?_ ?_) fun(v:Rt) hm D=>?_|refine Az (ZyC _ _ ?_) fun(v:Int) hm D=>?_|refine Az (Z2W _ _ ?_ ?_) fun(v:KN) hm D=>?_|refine Az (Zw1 _ _) fun(v:Int) hm D=>?_|refine Az (ZoF _) fun(v:BF) hm D=>?_|refine Az (ZyX _ _ _ ?_ ?_) fun(v:((List BF)×Int)) hm D=>?_|refine ZBf ?_ fun v D=>?_|refine Az (Zbx _) fun(v:(List Int)) hm D=>?_|refine Az (Zsh _ _ ?_ ?_) fun(v:Int) hm D=>?_|refine Az (Zzy _ ?_ ?_) fun(v:Int) hm D=>?_|refine Az (Z1q _) fun(v:Bool) hm D=>?_|refine Az (Zar _ _ _ ?_) fun(v:Cm) hm D=>?_|refine Az (Z9h _ ?_ ?_) fun(v:(AL×Int)) hm D=>?_|refine Az (ZvX _ _ ?_ ?_) fun(v:(A7×(List BD))) hm D=>?_|refine Az (ZaW _ _ _ ?_) fun(v:Cm) hm D=>?_|refine Az (Z9D _ _ ?_) fun(v:(List BD)) hm D=>?_|with_reducible apply And.intro|rfl|assumption|exact True.intro|omega|exact decide_eq_true (GN _).1|exact GL (by assumption) (by omega)|exact Gj (by assumption) (by omega)|(refine FY.2 ?_;first|omega|grind)|(apply Gh;first|omega|(simp only[Bh];omega))|(simp only[Dy,Bh,Cb,maxLen_eq,kL,kA]<;>omega)|(simp(disch:=omega) only[Bo,decide_eq_true_eq,bne_iff_ne,ne_eq];(repeat' split)<;>omega)|(simp[D8,Ey];done)|grind|(simp only[Dy,Bh,Cb,maxLen_eq,kL,kA]<;>grind)|grind [EI]
def Ztw:=PO.1
def Zxm:=PO.2.1
def Zrk:=PO.2.2.1
def ZyK:=PO.2.2.2.1
def Zsy:=PO.2.2.2.2.1
def ZoJ:=PO.2.2.2.2.2.1
def Zo8:=PO.2.2.2.2.2.2.1
def ZsH:=PO.2.2.2.2.2.2.2.1
def ZhM:=PO.2.2.2.2.2.2.2.2
end Go.Proofs.YtjodhcdmhobmoaaGreatDoor
