/- A part of it. -/
import Derived.Test.YtjodhcdmhobmoaaGreatDoorRUn
import Derived.Laws.BitsAllLaws
import Derived.Test.YtjodhcdmhobmoaaGreatDoorF3
import Derived.Laws.Bits128
set_option linter.unusedVariables false
set_option linter.unusedSimpArgs false
namespace Go.Proofs.YtjodhcdmhobmoaaGreatDoor
open Go Go.Proofs.YtjodhcdmhobmoaaGreatDoor.Le
def Tot {U:CY} {L:Type}:Tr U L->(L->Prop)->Prop
 | .leaf l,Q=>Q l
 | .br c a b,Q=>(c=true->Tot a Q)/\(c=false->Tot b Q)
 | .bind _ o k,Q=>∃x,o=some x/\Tot (k x) Q
 | .chk c a,Q=>c=true/\Tot a Q
 | .fail,_=>False
theorem ZBC {U:CY} {L R:Type} {J:L->Option R} {post:R->Prop}:∀{t:Tr U L},Tot t (fun l=>∃r,J l=some r/\post r)->∃r,t.den J=some r/\post r:=by
 intro t;induction t with
 | leaf l=>intro h;exact h
 | br c a b C D=>
  intro h;cases c with
  | true=>exact C (h.1 rfl)
  | false=>exact D (h.2 rfl)
 | bind t o k A=>
  intro h;obtain⟨x,F,h⟩:=h;obtain⟨r,q,z⟩:=A x h;exact⟨r,by rw[Tr.den,F];exact q,z⟩
 | chk c a A=>
  intro h;obtain⟨r,q,z⟩:=A h.2;exact⟨r,by rw[Tr.den,h.1];exact q,z⟩
 | fail=>intro h;exact h.elim
theorem Tot.mono {U:CY} {L:Type} {Q Q' : L->Prop} (C:∀l,Q l->Q' l):∀{t:Tr U L},Tot t Q->Tot t Q' :=by
 intro t;induction t with
 | leaf l=>exact C l
 | br c a b z A=>exact fun h=>⟨fun e=>z (h.1 e),fun e=>A (h.2 e)⟩
 | bind t o k q=>exact fun⟨x,D,h⟩=>⟨x,D,q x h⟩
 | chk c a q=>exact fun h=>⟨h.1,q h.2⟩
 | fail=>exact fun h=>h
def Lt3 (a b:Nat×Nat×Nat):Prop:=a.1<b.1\/(a.1=b.1/\(a.2.1<b.2.1\/(a.2.1=b.2.1/\a.2.2<b.2.2)))
theorem lt3_wf:WellFounded Lt3:=by
 have key:∀x y z,Acc Lt3 (x,y,z):=by
  intro x;induction x using Nat.strongRecOn with
  | _ x C=>
   intro y;induction y using Nat.strongRecOn with
   | _ y D=>
    intro z;induction z using Nat.strongRecOn with
    | _ z F=>
     refine Acc.intro _ fun q J=>?_;obtain⟨q1,q2,G⟩:=q;rcases J with h|⟨A,h|⟨I,h⟩⟩
     ·exact C q1 h q2 G
     ·simp only at A h;subst A;exact D q2 h G
     ·simp only at A I h;subst A;subst I;exact F G h
 exact⟨fun⟨x,y,z⟩=>key x y z⟩
theorem Zfq {a b c d e f:Nat} (h:a<d):Lt3 (a,b,c) (d,e,f):=.inl h
theorem Zfn {a b c e f:Nat} (h:b<e):Lt3 (a,b,c) (a,e,f):=.inr ⟨rfl,.inl h⟩
theorem FV {a b c d e f:Nat}:Lt3 (a,b,c) (d,e,f)↔a<d\/(a=d/\(b<e\/(b=e/\c<f))):=Iff.rfl
theorem BG {U:CY} {P R:Type} {T:P->Tr U (R⊕P)} {post:R->Prop} (I:P->Prop) (A:P->Nat×Nat×Nat)
  (h:∀p,I p->Tot (T p) (fun l=>match l with | .inl r=>post r | .inr q=>I q/\Lt3 (A q) (A p))) (p:P) (D:I p):∃r,AV T p=some r/\post r:=by
 have key:∀x p,A p=x->I p->∃r,AV T p=some r/\post r:=by
  intro x;induction lt3_wf.apply x with
  | intro x _ G=>
   intro p F C;subst F;rw[AZ];refine ZBC ((h p C).mono fun l z=>?_);cases l with
   | inl r=>exact⟨r,rfl,z⟩
   | inr q=>exact G _ z.2 q rfl z.1
 exact key _ p rfl D
theorem ZF7 {α:Type} {l:List α} {i:Int} {Q:α->Prop} (h:0<=i/\i<(l.length:Int)) (k:∀v,v∈l->Q v):∃v,l[Int.toNat i]? = some v/\Q v:=by
 have q:i.toNat<l.length:=by omega
 exact⟨l[i.toNat],List.getElem?_eq_getElem q,k _ (List.getElem_mem q)⟩
theorem Bo {a:Int} (h : -9223372036854775808<=a) (q : a<=9223372036854775807):AP a=a:=by
 simp only[AP,IntKind.wrap,IntKind.signed,IntKind.bits];simp;omega
theorem tm_bd (a:Int) (n:Nat) (h:0<n) : -(n:Int)<Int.tmod a n/\Int.tmod a n<n:=by
 have z:=Int.tmod_lt_of_pos a (show (0:Int)<n by omega);have q:=Int.tmod_lt_of_pos (-a) (show (0:Int)<n by omega);rw[Int.neg_tmod]at q;omega
theorem Gq {U:CY} {L:Type} {Q:L->Prop} (h:False):Tot (.fail:Tr U L) Q:=h
theorem EM {U:CY} {L:Type} {l:L} {Q:L->Prop} (h:Q l):Tot (.leaf l:Tr U L) Q:=h
theorem EG {U:CY} {L:Type} {c:Bool} {a b:Tr U L} {Q:L->Prop} (h:c=true->Tot a Q) (k:c=false->Tot b Q):Tot (.br c a b) Q:=⟨h,k⟩
theorem Dw {U:CY} {L:Type} {c:Bool} {a:Tr U L} {Q:L->Prop} (h:c=true) (k:Tot a Q):Tot (.chk c a) Q:=⟨h,k⟩
theorem Ar {U:CY} {L:Type} {t:Nat} {o:Option (U.Ty t)} {k:U.Ty t->Tr U L} {Q:L->Prop} {post:U.Ty t->Prop} (h:∃v,o=some v/\post v) (g:∀v,o=some v->post v->Tot (k v) Q):Tot (.bind t o k) Q:=by
 obtain⟨v,q,z⟩:=h;exact⟨v,q,g v q z⟩
theorem OM {U:CY} {L:Type} {t:Nat} {l:List (U.Ty t)} {i:Int} {k:U.Ty t->Tr U L} {Q:L->Prop} (h:0<=i/\i<(l.length:Int)) (g:∀v,v∈l->Tot (k v) Q):Tot (.bind t (l[Int.toNat i]?) k) Q:=
 ZF7 h g
theorem NM {U:CY} {L:Type} {t:Nat} {o:Option (U.Ty t)} {a:U.Ty t} {k:U.Ty t->Tr U L} {Q:L->Prop} (h:o=some a) (g:Tot (k a) Q):Tot (.bind t o k) Q:=⟨a,h,g⟩
theorem Cf:lim=140737488355328:=rfl
theorem maxLen_eq:maxLen=9223372036854775807:=rfl
end Go.Proofs.YtjodhcdmhobmoaaGreatDoor
namespace Go.Proofs.YtjodhcdmhobmoaaGreatDoor.Na
open Go
def rep (c:Nat):Nat->Nat
 | 0=>0
 | k+1=>256*rep c k+c
theorem fK (x s c k:Nat) (C:s<=8) (hc:c<2 ^ (8 - s)):(x / 2 ^ s) &&& rep c (k+1)=256*((x / 256 / 2 ^ s) &&& rep c k)+((x % 256 / 2 ^ s) &&& c):=by
 have q:c<2 ^ 8:=Nat.lt_of_lt_of_le hc (Nat.pow_le_pow_right (by omega) (by omega));have hb:((x % 256 / 2 ^ s) &&& c)<2 ^ 8:=Nat.lt_of_le_of_lt Nat.and_le_right q;refine Nat.eq_of_testBit_eq fun j=>?_;rw[show (256:Nat)=2 ^ 8 from rfl]at *;rw[Nat.testBit_two_pow_mul_add _ hb];simp only[rep];rw[show (256:Nat)=2 ^ 8 from rfl,Nat.testBit_and,Nat.testBit_two_pow_mul_add _ q];split
 ·rename_i A;rw[Nat.testBit_and,Nat.testBit_div_two_pow,Nat.testBit_div_two_pow,Nat.testBit_mod_two_pow]
  by_cases h:c.testBit j=true
  ·have:j<8 - s:=by
    refine Nat.lt_of_not_le fun z=>?_;rw[Nat.testBit_lt_two_pow (Nat.lt_of_lt_of_le hc (Nat.pow_le_pow_right (by omega) z))]at h;cases h
   rw[h,show decide (j+s<8)=true by simp;omega];simp
  ·simp[h]
 ·rename_i A;rw[Nat.testBit_and,Nat.testBit_div_two_pow,Nat.testBit_div_two_pow,Nat.testBit_div_two_pow];rw[show j - 8+s+8=j+s by omega]
def s1 (k x:Nat):Nat:=(x / 2 &&& rep 0x55 k)+(x &&& rep 0x55 k)
def s2 (k x:Nat):Nat:=(x / 4 &&& rep 0x33 k)+(x &&& rep 0x33 k)
def s3 (k x:Nat):Nat:=(x / 16+x) &&& rep 0x0f k
theorem Z3n (k x:Nat):s1 (k+1) x=256*s1 k (x / 256)+s1 1 (x % 256):=by
 have q:=fK x 1 0x55 k (by omega) (by decide);have z:=fK x 0 0x55 k (by omega) (by decide);simp only[Nat.pow_zero,Nat.div_one,Nat.pow_one]at q z;simp only[s1];rw[q,z,show rep 0x55 1=0x55 from rfl];omega
theorem Zet (k h a:Nat) (D:a<256):s2 (k+1) (256*h+a)=256*s2 k h+s2 1 a:=by
 have q:=fK (256*h+a) 2 0x33 k (by omega) (by decide);have z:=fK (256*h+a) 0 0x33 k (by omega) (by decide);have A:(256*h+a) / 256=h:=by omega
 have C:(256*h+a) % 256=a:=by omega
 rw[A,C]at q z;simp only[Nat.pow_zero,Nat.div_one,show 2 ^ 2=4 from rfl]at q z;simp only[s2];rw[q,z,show rep 0x33 1=0x33 from rfl];omega
theorem ZCk (k h a:Nat) (F:a % 16<=4) (D : a / 16<=4) (G:h % 16<=4):s3 (k+1) (256*h+a)=256*s3 k h+s3 1 a:=by
 have q:=fK ((256*h+a) / 16+(256*h+a)) 0 0x0f k (by omega) (by decide);simp only[Nat.pow_zero,Nat.div_one]at q;have z:((256*h+a) / 16+(256*h+a)) / 256=h / 16+h:=by omega
 have A:((256*h+a) / 16+(256*h+a)) % 256=(h % 16)*16+(a / 16+a):=by omega
 have C:((h % 16)*16+(a / 16+a)) &&& 15=(a / 16+a) &&& 15:=by
  rw[Nat.and_two_pow_sub_one_eq_mod _ 4,Nat.and_two_pow_sub_one_eq_mod _ 4];omega
 simp only[s3];rw[q,z,A,C,show rep 0x0f 1=0x0f from rfl]
theorem Z4w:∀a<256,s1 1 a<256:=by decide +kernel
theorem Zfy:∀a<256,s2 1 (s1 1 a) % 16<=4/\s2 1 (s1 1 a) / 16<=4/\s2 1 (s1 1 a)<256:=by decide +kernel
def bc:Nat->Nat->Nat
 | 0,_=>0
 | k+1,x=>bc k x+x / 2 ^ k % 2
theorem f3_eq:∀a<256,s3 1 (s2 1 (s1 1 a))=bc 8 a:=by decide +kernel
theorem JJ (k x:Nat):bc k x<=k:=by
 induction k with
 | zero=>simp[bc]
 | succ k q=>simp only[bc];omega
theorem fU (a k x:Nat):bc (a+k) x=bc a x+bc k (x / 2 ^ a):=by
 induction k with
 | zero=>simp[bc]
 | succ k q=>
  show bc (a+k) x+x / 2 ^ (a+k) % 2=_;simp only[bc];rw[q,Nat.pow_add,Nat.div_div_eq_div_mul];omega
theorem Zfd (a b x:Nat) (h:a<=b):bc a (x % 2 ^ b)=bc a x:=by
 induction a with
 | zero=>rfl
 | succ k q=>
  simp only[bc];rw[q (by omega)];congr 1;have e:∀y,y / 2 ^ k % 2=(y.testBit k).toNat:=fun y=>by rw[Nat.testBit_eq_decide_div_mod_eq];rcases Nat.mod_two_eq_zero_or_one (y / 2 ^ k) with h|h<;>simp[h]
  rw[e,e,Nat.testBit_mod_two_pow];simp[show k<b by omega]
theorem Zeh (k:Nat):bc k 0=0:=by
 induction k with
 | zero=>rfl
 | succ k q=>simp[bc,q]
def pb:Nat->Nat->Nat
 | 0,_=>0
 | k+1,x=>256*pb k (x / 256)+bc 8 (x % 256)
theorem swar (k x:Nat):s3 k (s2 k (s1 k x))=pb k x/\s2 k (s1 k x) % 16<=4:=by
 induction k generalizing x with
 | zero=>simp[s1,s2,s3,rep,pb]
 | succ k C=>
  have q:x % 256<256:=Nat.mod_lt _ (by omega);obtain⟨z,A⟩:=C (x / 256);obtain⟨b1,b2,b3⟩:=Zfy _ q;rw[Z3n,Zet _ _ _ (Z4w _ q),ZCk _ _ _ b1 b2 A,z,f3_eq _ q];exact⟨rfl,by omega⟩
theorem dv (B A b:Nat) (hb:b<B):(b+B*A) / B=A:=by
 rw[Nat.add_mul_div_left _ _ (by omega),Nat.div_eq_of_lt hb];omega
theorem sum8e (F p1 p2 D C A z q:Nat) :
  256*(256*(256*(256*(256*(256*(256*(256*0+q)+z)+A)+C)+D)+p2)+p1)+F=F+256*(256*(256*(256*(256*(256*(256*q+z)+A)+C)+D)+p2)+p1) /\
  (F+256*(256*(256*(256*(256*(256*(256*q+z)+A)+C)+D)+p2)+p1))+(256*(256*(256*(256*(256*(256*q+z)+A)+C)+D)+p2)+p1)=((F+p1)+256*(p1+p2))+65536*((p2+D)+256*(D+C)+65536*(C+A)+16777216*(A+z)+4294967296*(z+q)+1099511627776*q) /\
  (((F+p1)+256*(p1+p2))+65536*((p2+D)+256*(D+C)+65536*(C+A)+16777216*(A+z)+4294967296*(z+q)+1099511627776*q))+((p2+D)+256*(D+C)+65536*(C+A)+16777216*(A+z)+4294967296*(z+q)+1099511627776*q)=((F+p1+p2+D)+256*(p1+p2+D+C)+65536*(p2+D+C+A)+16777216*(D+C+A+z))+4294967296*((C+A+z+q)+256*(A+z+q)+65536*(z+q)+16777216*q) /\
  (((F+p1+p2+D)+256*(p1+p2+D+C)+65536*(p2+D+C+A)+16777216*(D+C+A+z))+4294967296*((C+A+z+q)+256*(A+z+q)+65536*(z+q)+16777216*q))+((C+A+z+q)+256*(A+z+q)+65536*(z+q)+16777216*q)=(F+p1+p2+D+C+A+z+q)+128*(2*(p1+p2+D+C+A+z+q)+512*(p2+D+C+A+z+q)+131072*(D+C+A+z+q)+33554432*((C+A+z+q)+256*(A+z+q)+65536*(z+q)+16777216*q)):=by
 refine⟨?_,?_,?_,?_⟩<;>omega
theorem sum8 (F p1 p2 G I J M N:Nat) (Q:F<=8) (q:p1<=8) (z:p2<=8) (A:G<=8) (S:I<=8) (h5:J<=8) (h6:M<=8) (h7:N<=8) (w t u v:Nat)
  (Y:w=256*(256*(256*(256*(256*(256*(256*(256*0+N)+M)+J)+I)+G)+p2)+p1)+F) (C:t=w+w / 256) (D:u=t+t / 65536) (hv:v=u+u / 4294967296) :
  v % 128=F+p1+p2+G+I+J+M+N/\w<=v/\t<=v/\u<=v/\v<18446744073709551616:=by
 obtain⟨q1,q2,q3,q4⟩:=sum8e F p1 p2 G I J M N;rw[q1]at Y;rw[Y,dv 256 _ _ (Nat.lt_of_le_of_lt Q (by decide)),q2]at C;rw[C,dv 65536 _ _ (Nat.lt_of_le_of_lt (Nat.add_le_add (Nat.add_le_add Q q) (Nat.mul_le_mul_left 256 (Nat.add_le_add q z))) (by decide)),q3]at D;rw[D,dv 4294967296 _ _ (Nat.lt_of_le_of_lt (Nat.add_le_add (Nat.add_le_add (Nat.add_le_add (Nat.add_le_add (Nat.add_le_add (Nat.add_le_add Q q) z) A) (Nat.mul_le_mul_left 256 (Nat.add_le_add (Nat.add_le_add (Nat.add_le_add q z) A) S))) (Nat.mul_le_mul_left 65536 (Nat.add_le_add (Nat.add_le_add (Nat.add_le_add z A) S) h5))) (Nat.mul_le_mul_left 16777216 (Nat.add_le_add (Nat.add_le_add (Nat.add_le_add A S) h5) h6))) (by decide)),q4]at hv;have a1:w<=t:=by rw[Y,C,<- q2];exact Nat.le_add_right _ _
 have a2:t<=u:=by rw[C,D,<- q3];exact Nat.le_add_right _ _
 have O:u<=v:=by rw[D,hv,<- q4];exact Nat.le_add_right _ _
 refine⟨?_,Nat.le_trans a1 (Nat.le_trans a2 O),Nat.le_trans a2 O,O,?_⟩
 ·have hs:F+p1+p2+G+I+J+M+N<128:=Nat.lt_of_le_of_lt (Nat.add_le_add (Nat.add_le_add (Nat.add_le_add (Nat.add_le_add (Nat.add_le_add (Nat.add_le_add (Nat.add_le_add Q q) z) A) S) h5) h6) h7) (by decide);rw[hv,Nat.add_mul_mod_self_left,Nat.mod_eq_of_lt hs]
 ·clear a1 a2 O q1 q2 q3 q4 Y C D;omega
def popN (x:Nat):Nat:=
 let w:=s3 8 (s2 8 (s1 8 x));let t:=w+w / 256;let u:=t+t / 65536;let v:=u+u / 4294967296
 v % 128
theorem ZCW (x:Nat) (C:x<2 ^ 37):popN x=bc 37 x:=by
 have h:=sum8 (bc 8 (x % 256)) (bc 8 (x / 256 % 256)) (bc 8 (x / 256 / 256 % 256)) (bc 8 (x / 256 / 256 / 256 % 256)) (bc 8 (x / 256 / 256 / 256 / 256 % 256)) (bc 8 (x / 256 / 256 / 256 / 256 / 256 % 256)) (bc 8 (x / 256 / 256 / 256 / 256 / 256 / 256 % 256)) (bc 8 (x / 256 / 256 / 256 / 256 / 256 / 256 / 256 % 256))
  (JJ _ _) (JJ _ _) (JJ _ _) (JJ _ _) (JJ _ _) (JJ _ _) (JJ _ _) (JJ _ _) (pb 8 x) _ _ _ rfl rfl rfl rfl
 unfold popN;rw[(swar 8 x).1];refine h.1.trans ?_;have z:∀y,bc 8 (y % 256)=bc 8 y:=fun y=>Zfd 8 8 y (Nat.le_refl 8);simp only[z];have A:x / 256 / 256 / 256 / 256 / 256=0:=by omega
 rw[A];simp only[Nat.zero_div,Zeh,Nat.add_zero];rw[show 37=8+(8+(8+(8+5))) from rfl,fU,fU,fU,fU];have q:bc 8 (x / 256 / 256 / 256 / 256)=bc 5 (x / 256 / 256 / 256 / 256):=by
  rw[show 8=5+3 from rfl,fU,show x / 256 / 256 / 256 / 256 / 2 ^ 5=0 by omega,Zeh];rfl
 rw[q];simp only[show (2:Nat) ^ 8=256 from rfl];omega
theorem s1_lt (k x:Nat):s1 k x<256 ^ k:=by
 induction k generalizing x with
 | zero=>simp[s1,rep]
 | succ k q=>
  have:=Z4w (x % 256) (Nat.mod_lt _ (by omega));have:=q (x / 256);rw[Z3n,Nat.pow_succ];omega
theorem s2_le (k x:Nat):255*s2 k (s1 k x)+68<=68*256 ^ k:=by
 induction k generalizing x with
 | zero=>simp[s2,rep]
 | succ k z=>
  have q:x % 256<256:=Nat.mod_lt _ (by omega);obtain⟨b1,b2,b3⟩:=Zfy (x % 256) q;have:=z (x / 256);rw[Z3n,Zet _ _ _ (Z4w _ q),Nat.pow_succ];omega
theorem ZBy (x:Nat):let w:=s3 8 (s2 8 (s1 8 x))
  let t:=w+w / 256;let u:=t+t / 65536
  s1 8 x<18446744073709551616/\s2 8 (s1 8 x)+s2 8 (s1 8 x) / 16<18446744073709551616/\w<18446744073709551616/\t<18446744073709551616/\u<18446744073709551616/\u+u / 4294967296<18446744073709551616:=by
 have h:=sum8 (bc 8 (x % 256)) (bc 8 (x / 256 % 256)) (bc 8 (x / 256 / 256 % 256)) (bc 8 (x / 256 / 256 / 256 % 256)) (bc 8 (x / 256 / 256 / 256 / 256 % 256)) (bc 8 (x / 256 / 256 / 256 / 256 / 256 % 256)) (bc 8 (x / 256 / 256 / 256 / 256 / 256 / 256 % 256)) (bc 8 (x / 256 / 256 / 256 / 256 / 256 / 256 / 256 % 256))
  (JJ _ _) (JJ _ _) (JJ _ _) (JJ _ _) (JJ _ _) (JJ _ _) (JJ _ _) (JJ _ _) (pb 8 x) _ _ _ rfl rfl rfl rfl
 intro w t u;have e:w=pb 8 x:=(swar 8 x).1;rw[<- e]at h;have q2:=s2_le 8 x;refine⟨s1_lt 8 x,?_,Nat.lt_of_le_of_lt h.2.1 h.2.2.2.2,Nat.lt_of_le_of_lt h.2.2.1 h.2.2.2.2,Nat.lt_of_le_of_lt h.2.2.2.1 h.2.2.2.2,h.2.2.2.2⟩;clear h e
 clear_value w t u
 generalize s2 8 (s1 8 x)=y at q2;omega
def Jf (x:Nat):Nat:=((x >>> 0 &&& 257) <<< 7) ||| ((x >>> 1 &&& 257) <<< 6) ||| ((x >>> 2 &&& 257) <<< 5) ||| ((x >>> 3 &&& 257) <<< 4) ||| ((x >>> 4 &&& 257) <<< 3) ||| ((x >>> 5 &&& 257) <<< 2) ||| ((x >>> 6 &&& 257) <<< 1) ||| ((x >>> 7 &&& 257) <<< 0)
theorem ZE8 (a b:Nat):Jf (a ||| b)=Jf a ||| Jf b:=by
 have t:∀i j,((a ||| b) >>> i &&& 257) <<< j=((a >>> i &&& 257) <<< j) ||| ((b >>> i &&& 257) <<< j):=by
  intro i j;rw[Nat.shiftRight_or_distrib,Nat.and_or_distrib_right,Nat.shiftLeft_or_distrib]
 simp only[Jf,t]
 ac_rfl
def rv (k x r:Nat):Nat:=match k with
 | 0=>r
 | k+1=>rv k (x / 2) (2*r+x % 2)
theorem VO:∀a<256,Jf a=rv 8 a 0/\Jf (256*a)=256*rv 8 a 0/\rv 8 a 0<256:=by decide +kernel
theorem Zf6 (x:Nat) (A:x<65536):Jf x=256*rv 8 (x / 256) 0+rv 8 (x % 256) 0:=by
 have z:=VO (x % 256) (Nat.mod_lt _ (by omega));have q:=VO (x / 256) (by omega);have e:x=256*(x / 256) ||| x % 256:=by
  rw[nat_join 8 (256*(x / 256)) (x % 256) (by omega) (by omega)];omega
 conv=>lhs;rw[e]
 rw[ZE8,q.2.1,z.1,nat_join 8 _ _ (by omega) (by omega)]
theorem Zf8 (x:Nat) (q:x<65536):Jf x<65536:=by
 rw[Zf6 x q];have:=(VO (x % 256) (Nat.mod_lt _ (by omega))).2.2;have:=(VO (x / 256) (by omega)).2.2;omega
end Go.Proofs.YtjodhcdmhobmoaaGreatDoor.Na
namespace Go.Proofs.YtjodhcdmhobmoaaGreatDoor
open Go Go.Proofs.YtjodhcdmhobmoaaGreatDoor.Le
theorem Fh {n:Int} (h : -9223372036854775808<=n) (q : n<=9223372036854775807):AP n=n:=by
 simp only[AP,IntKind.wrap,IntKind.signed,IntKind.bits];simp;omega
def cl (z q x:Int):Int:=max z (min x q)
theorem cl1 (q z x:Int) (h:q<=z):(if z<(if q>x then q else x) then z else (if q>x then q else x))=cl q z x:=by unfold cl;split<;>split<;>omega
theorem cl2 (z q x:Int) (h:z<=q):(if (if q<x then q else x)>z then (if q<x then q else x) else z)=cl z q x:=by unfold cl;split<;>split<;>omega
def P9 (s:F9):Bool:=decide (s.f_low<=s.TW)&&decide (s.TW<=s.uK)
theorem Zy2 (xs:List F9) (F:xs.length<1000):∀(k i:Nat),i+k=xs.length->AV Wx (.b1 xs xs.length i)=some ((xs.drop i).all P9):=by
 intro k;induction k with
 | zero=>
  intro i C;refine(AZ _ _).trans ?_;simp only[Wx,DN];rw[show decide ((i:Int)<(xs.length:Int))=false by simp;omega,List.drop_of_length_le (by omega)];rfl
 | succ k D=>
  intro i C;have A:i<xs.length:=by omega
  refine(AZ _ _).trans ?_;simp only[Wx,DN];rw[show decide ((i:Int)<(xs.length:Int))=true by simp;omega];rw[show decide (0<=(i:Int)/\(i:Int)<(xs.length:Int))=true by simp;omega];simp only[cond_true,Int.toNat_natCast,List.getElem?_eq_getElem A,Option.bind_some];rw[List.drop_eq_getElem_cons A,List.all_cons]
  by_cases q:(xs[i]).TW<(xs[i]).f_low
  ·rw[decide_eq_true q,show P9 xs[i]=false by simp[P9];omega];rfl
  ·by_cases z:(xs[i]).TW>(xs[i]).uK
   ·rw[decide_eq_false q,decide_eq_true z,show P9 xs[i]=false by simp[P9];omega];rfl
   ·rw[decide_eq_false q,decide_eq_false z,show P9 xs[i]=true by simp[P9];omega];simp only[cond_false,Bool.true_and];refine(AZ _ _).trans ?_;simp only[Wx,DN];rw[Fh (by omega) (by omega)];exact D (i+1) (by omega)
theorem ZkC (xs:List F9) (q:xs.length<1000):Za xs=some (xs.all P9):=
 (AZ _ _).trans (Zy2 xs q xs.length 0 (by simp))
theorem ZoN (x q z:Int):Ns x q z=some (decide (q<=x)&&decide (x<=z)):=(AZ _ _).trans (by
 simp only[Z0u,DN]
 by_cases h:x>=q
 ·rw[decide_eq_true h];simp
 ·rw[decide_eq_false h];simp)
def inB (x z q:Int):Bool:=decide (z<=x)&&decide (x<=q)
def I7 (u:DL):Int:=
 if !(inB u.ET 1 8&&inB u.ES 0 3200&&inB u.Dl 6 3200&&inB u.Dx 0 499&&inB u.Ea 10 3200) then 5
 else if u.ET>=u.Dl then 11 else if u.ES>u.Dl then 11
 else if (AP (u.Ea*(10000:Int)))<=(AP ((AP ((AP ((2:Int)*(AP (u.Dx+(1:Int)))))*u.Dl))*(1250:Int))) then 11 else 0
theorem QF (u:DL):jI u=some (I7 u):=(AZ _ _).trans (by
 simp only[Z5e,DN];rw[ZkC _ (by simp)];simp only[List.all_cons,List.all_nil,P9,Bool.and_true,Option.bind_some,List.length_cons,List.length_nil,I7,inB,Bool.and_assoc];generalize (decide (1<=u.ET)&&_)=b;cases b with
 | false=>rfl
 | true=>
  by_cases q:u.ET>=u.Dl
  ·simp[q]
  ·by_cases z:u.ES>u.Dl
   ·simp[q,z]
   ·by_cases A:(AP (u.Ea*(10000:Int)))<=(AP ((AP ((AP ((2:Int)*(AP (u.Dx+(1:Int)))))*u.Dl))*(1250:Int)))
    ·simp[q,z,A]
    ·simp[q,z,A])
theorem Zji (u:DL):Ws u=some (I7 u):=(AZ _ _).trans (by
 simp only[kW,DN,ZoN,Option.bind_some,I7];rw[show (decide (1<=u.ET)&&decide (u.ET<=8))=inB u.ET 1 8 from rfl];rw[show (decide (0<=u.ES)&&decide (u.ES<=3200))=inB u.ES 0 3200 from rfl];rw[show (decide (6<=u.Dl)&&decide (u.Dl<=3200))=inB u.Dl 6 3200 from rfl];rw[show (decide (0<=u.Dx)&&decide (u.Dx<=499))=inB u.Dx 0 499 from rfl];rw[show (decide (10<=u.Ea)&&decide (u.Ea<=3200))=inB u.Ea 10 3200 from rfl];cases inB u.ET 1 8<;>first|rfl|skip
 cases inB u.ES 0 3200<;>first|rfl|skip
 cases inB u.Dl 6 3200<;>first|rfl|skip
 cases inB u.Dx 0 499<;>first|rfl|skip
 cases inB u.Ea 10 3200<;>first|rfl|skip
 simp only[Bool.not_true,cond_false,Bool.and_true,Bool.false_eq_true,if_false];refine(AZ _ _).trans ?_;simp only[kW,DN]
 by_cases q:u.ET>=u.Dl
 ·simp[q]
 ·by_cases z:u.ES>u.Dl
  ·simp[q,z]
  ·by_cases A:(AP (u.Ea*(10000:Int)))<=(AP ((AP ((AP ((2:Int)*(AP (u.Dx+(1:Int)))))*u.Dl))*(1250:Int)))
   ·simp[q,z,A]
   ·simp[q,z,A])
def fresh:List BV:=List.replicate 37 ⟨0,0⟩
open Go Go.Proofs.YtjodhcdmhobmoaaGreatDoor.Le Go.Proofs.YtjodhcdmhobmoaaGreatDoor.Na
set_option maxRecDepth 100000
theorem Va {n:Nat} (h:n<18446744073709551616):IntKind.u64.wrap (n:Int)=n:=by
 rw[show IntKind.u64.wrap (n:Int)=(n:Int) % 18446744073709551616 by simp[IntKind.wrap,IntKind.bits,IntKind.signed]];omega
theorem fd (n k:Nat):Int.fdiv (n:Int) (2 ^ k)=((n / 2 ^ k:Nat):Int):=by
 rw[Int.fdiv_eq_ediv_of_nonneg _ (Int.le_of_lt (Int.pow_pos (by decide)))];rw[Int.natCast_ediv];simp
def J1 (a:Int):Int:=IntKind.wrap .u64 ((bits .and .u64 (Int.fdiv a (2 ^ (1:Nat))) (6148914691236517205:Int))+(bits .and .u64 a (6148914691236517205:Int)))
def J2 (a:Int):Int:=IntKind.wrap .u64 ((bits .and .u64 (Int.fdiv a (2 ^ (2:Nat))) (3689348814741910323:Int))+(bits .and .u64 a (3689348814741910323:Int)))
def J3 (a:Int):Int:=bits .and .u64 (IntKind.wrap .u64 ((Int.fdiv a (2 ^ (4:Nat)))+a)) (1085102592571150095:Int)
def J4 (k:Nat) (a:Int):Int:=IntKind.wrap .u64 (a+(Int.fdiv a (2 ^ k)))
theorem j1 (n:Nat) (q:n<18446744073709551616) (h:s1 8 n<18446744073709551616):J1 (n:Int)=(s1 8 n:Nat):=by
 unfold J1;rw[fd,show (6148914691236517205:Int)=((6148914691236517205:Nat):Int) from rfl,u64_and_nat _ _ (by omega) (by decide),u64_and_nat _ _ q (by decide),<- Int.natCast_add];exact Va h
theorem j2 (n:Nat) (q:n<18446744073709551616) (h:s2 8 n<18446744073709551616):J2 (n:Int)=(s2 8 n:Nat):=by
 unfold J2;rw[fd,show (3689348814741910323:Int)=((3689348814741910323:Nat):Int) from rfl,u64_and_nat _ _ (by omega) (by decide),u64_and_nat _ _ q (by decide),<- Int.natCast_add];exact Va h
theorem j3 (n:Nat) (h:n+n / 16<18446744073709551616):J3 (n:Int)=(s3 8 n:Nat):=by
 unfold J3;rw[fd,<- Int.natCast_add,Va (by omega),show (1085102592571150095:Int)=((1085102592571150095:Nat):Int) from rfl,u64_and_nat _ _ (by omega) (by decide)];rfl
theorem j4 (k n:Nat) (h:n+n / 2 ^ k<18446744073709551616):J4 k (n:Int)=((n+n / 2 ^ k:Nat):Int):=by
 unfold J4;rw[fd,<- Int.natCast_add,Va h]
theorem Zlm (a:Int):jF a=some (bits .and .i64 (AP (J4 32 (J4 16 (J4 8 (J3 (J2 (J1 a))))))) 127):=(AZ _ _).trans rfl
theorem ZBB (n:Int):AP n % 128=n % 128:=by
 simp only[AP,IntKind.wrap,IntKind.signed,IntKind.bits];simp;split<;>omega
theorem Znc (n:Nat) (F:n<2 ^ 37):jF (n:Int)=some ((bc 37 n:Nat):Int):=by
 rw[Zlm];have h:=ZBy n;simp only at h;obtain⟨q,z,G,A,C,D⟩:=h;rw[j1 _ (by omega) q,j2 _ q (by omega),j3 _ z,j4 8 _ A,j4 16 _ C,j4 32 _ D];rw[<- ZCW n F,i64_and127,ZBB];rfl
theorem ZdM (n c:Nat) (q:n<18446744073709551616):hasB (n:Int) c=(n / 2 ^ c % 2==1):=by
 unfold hasB;rw[show ((n:Int) / 2 ^ c)=((n / 2 ^ c:Nat):Int) by rw[Int.natCast_ediv];simp];have hb:n / 2 ^ c<18446744073709551616:=Nat.lt_of_le_of_lt (Nat.div_le_self _ _) q;rw[show (1:Int)=((1:Nat):Int) from rfl,u64_and_nat _ _ hb (by decide),nat_mask1];generalize n / 2 ^ c % 2=x
 by_cases h:x=1
 ·subst h;rfl
 ·rw[show (x==1)=false by simpa using h];simpa using fun z =>h (by omega)
theorem ZDF (n:Nat) (q:n<18446744073709551616) (k:Nat):(Ew (n:Int) k).length=bc k n:=by
 induction k with
 | zero=>rfl
 | succ k z=>
  rw[Z3a,List.length_append,z,ZdM _ _ q];simp only[bc];rcases Nat.mod_two_eq_zero_or_one (n / 2 ^ k) with h|h<;>simp[h]
theorem ZBG (n:Nat) (q:n<18446744073709551616):bits .and .u64 (n:Int) 137438953471=((n % 2 ^ 37:Nat):Int):=by
 rw[show (137438953471:Int)=((137438953471:Nat):Int) from rfl,u64_and_nat _ _ q (by decide),Nat.and_two_pow_sub_one_eq_mod _ 37]
def cnt (m:Int):Int:=((Ew m 37).length:Int)
theorem ZE9 (m:Int):0<=cnt m/\cnt m<=37:=by
 unfold cnt Ew;have q:=List.length_filter_le (hasB m) (List.range 37);rw[List.length_range]at q;exact⟨by omega,by omega⟩
theorem Zy (n:Nat) (q:n<18446744073709551616):UI (n:Int)=some (cnt (n:Int)):=(AZ _ _).trans (by
 simp only[Z72,DN,ZBG n q];rw[Znc _ (Nat.mod_lt _ (by decide))];simp only[Option.bind_some,cnt,ZDF n q,Zfd 37 37 n (Nat.le_refl _)])
def has (m c:Int):Bool:=decide (0<=c)&&(decide (c<37)&&hasB m c.toNat)
theorem Z7S (m c:Int) (hm:0<=m):mP m c=some (has m c):=(AZ _ _).trans (by
 simp only[Z8q,DN,has]
 by_cases q:c>=0
 ·by_cases z:c<37
  ·rw[decide_eq_true q,decide_eq_true z];simp only[cond_true,Bool.true_and,hasB];rw[show min c.toNat IntKind.u64.bits=c.toNat from Nat.min_eq_left (by simp[IntKind.bits];omega)];rw[Int.fdiv_eq_ediv_of_nonneg _ (Int.le_of_lt (Int.pow_pos (by decide)))]
  ·rw[decide_eq_true q,decide_eq_false z];simp
 ·rw[decide_eq_false q];simp)
theorem ZBs (k:Nat) (A:k<=63):∀j i:Nat,i+j=k->AV U7 (.b1 k ((2 ^ i:Nat):Int) i)=some ((2 ^ k:Nat):Int):=by
 intro j;induction j with
 | zero=>
  intro i q;refine(AZ _ _).trans ?_;simp only[U7,DN];rw[show decide ((i:Int)<(k:Int))=false by simp;omega,show i=k by omega];rfl
 | succ j z=>
  intro i q;refine(AZ _ _).trans ?_;simp only[U7,DN];have C:2 ^ (i+1)<=2 ^ 63:=Nat.pow_le_pow_right (by decide) (by omega);rw[show decide ((i:Int)<(k:Int))=true by simp;omega];simp only[cond_true];rw[show ((2 ^ i:Nat):Int)*2=((2 ^ (i+1):Nat):Int) by rw[Nat.pow_succ];simp,Va (by omega),Fh (by omega) (by omega)];exact z (i+1) (by omega)
theorem Za1 (k:Nat) (q:k<=63):Ro (k:Int)=some ((2 ^ k:Nat):Int):=(AZ _ _).trans (ZBs k q k 0 (by omega))
theorem Z2E (n:Nat) (A:n<18446744073709551616) (c:Int):Uu (n:Int) c=some (has (n:Int) c):=(AZ _ _).trans (by
 simp only[Z2n,DN,has]
 by_cases q:c>=0
 ·by_cases z:c<=36
  ·rw[decide_eq_true q,decide_eq_true z,decide_eq_true (show c<37 by omega)];obtain⟨k,rfl⟩:∃k:Nat,c=k:=⟨c.toNat,by omega⟩;have C:0<2 ^ k:=Nat.pow_pos (by decide);simp only[cond_true,Bool.true_and,Int.toNat_natCast];rw[Za1 k (by omega),ZdM _ _ A];simp only[Option.bind_some];rw[show (((2 ^ k:Nat):Int) != 0)=true from bne_iff_ne.mpr (Int.natCast_ne_zero.mpr (Nat.pos_iff_ne_zero.mp C))];simp only[cond_true];rw[Int.tdiv_eq_ediv_of_nonneg (Int.natCast_nonneg _),<- Int.natCast_ediv,Va (Nat.lt_of_le_of_lt (Nat.div_le_self _ _) A),Int.tmod_eq_emod_of_nonneg (Int.natCast_nonneg _)];generalize n / 2 ^ k=x;rcases Nat.mod_two_eq_zero_or_one x with h|h
   ·rw[show ((x:Int) % 2)=0 by omega,h];rfl
   ·rw[show ((x:Int) % 2)=1 by omega,h];rfl
  ·rw[decide_eq_true q,decide_eq_false z,decide_eq_false (show ¬c<37 by omega)];simp
 ·rw[decide_eq_false q];simp)
theorem ZBA (m:Int) (c:Nat) (hc:c<37):has m c=hasB m c:=by
 unfold has;rw[decide_eq_true (show (0:Int)<=c by omega),decide_eq_true (show (c:Int)<37 by omega)];rfl
def Jz (m:Int) (k:Nat):List Int:=(Ew m k).map fun c:Nat=>(c:Int)
theorem ZF5 (m:Int) (k:Nat):(Ew m k).length<=k:=by
 have q:=List.length_filter_le (hasB m) (List.range k);rw[List.length_range]at q;exact q
theorem Zz9 (n:Nat) (C:n<18446744073709551616):∀j i:Nat,i+j=37->AV PE (.b1 n (Jz n i) i)=some (Jz n 37):=by
 intro j;induction j with
 | zero=>
  intro i A;refine(AZ _ _).trans ?_;simp only[PE,DN];rw[show decide ((i:Int)<=36)=false by simp;omega,show i=37 by omega];simp
 | succ j D=>
  intro i A;have hb:∀xs:List Int,AV PE (.b2 n xs i)=AV PE (.b1 n xs (i+1:Nat)):=fun xs=>(AZ _ _).trans (by
   simp only[PE,DN];rw[Fh (by omega) (by omega)];simp)
  have F:(Jz n i).length<=37:=by
   rw[Jz,List.length_map];have:=ZF5 n i;omega
  refine(AZ _ _).trans ?_;simp only[PE,DN];rw[show decide ((i:Int)<=36)=true by simp;omega];simp only[cond_true,Z2E n C,Option.bind_some,ZBA (n:Int) i (by omega)];have e:Jz n (i+1)=Jz n i++if hasB n i then [(i:Int)] else []:=by
   simp only[Jz,Z3a,List.map_append];split<;>rfl
  have q:=D (i+1) (by omega);rw[e]at q;cases z:hasB (n:Int) i with
  | true=>
   rw[z]at q;simp only[if_true]at q;simp only[cond_true,List.length_cons,List.length_nil,beq_self_eq_true];rw[show (decide (((Jz n i).length+(0+1))*8<=lim)&&decide ((Jz n i).length+(0+1)<=maxLen))=true from
    Bool.and_eq_true_iff.mpr ⟨decide_eq_true (Nat.le_trans (show _<=1000 by omega) (by decide)),decide_eq_true (Nat.le_trans (show _<=1000 by omega) (by decide))⟩]
   simp only[cond_true,hb];exact q
  | false=>
   rw[z]at q;simp only[Bool.false_eq_true,if_false,List.append_nil]at q;simp only[cond_false,beq_self_eq_true,cond_true,hb];exact q
theorem ZbN (n:Nat) (q:n<18446744073709551616):Uk (n:Int)=some (Jz n 37):=(AZ _ _).trans (by
 simp only[PE,DN,List.length_nil,beq_self_eq_true,cond_true];exact Zz9 n q 37 0 (by omega))
theorem Z3M (m:Int):((Jz m 37).length:Int)=cnt m:=by unfold Jz cnt;rw[List.length_map]
theorem Z1s (n:Nat) (q:n<18446744073709551616):Uc (n:Int)=some (cnt (n:Int)):=(AZ _ _).trans (by
 simp only[Z17,DN,ZbN n q,Option.bind_some,Z3M])
theorem Zdk (n:Nat) (C:n<18446744073709551616) (i:Int):dG (n:Int) i=some (NC n i):=(AZ _ _).trans (by
 simp only[qE,DN,ZbN n C,Option.bind_some,Z3M,NC]
 by_cases z:i<0
 ·rw[decide_eq_true z,if_neg (by omega)];rfl
 ·by_cases q:i>=cnt n
  ·rw[decide_eq_false z,decide_eq_true q,if_neg (by unfold cnt at q;omega)];rfl
  ·rw[decide_eq_false z,decide_eq_false q,if_pos (by unfold cnt at q;omega)];simp only[cond_false];refine(AZ _ _).trans ?_;simp only[qE,DN,Z3M];rw[decide_eq_true (show 0<=i/\i<cnt n by omega)];simp only[cond_true];have A:i.toNat<(Ew n 37).length:=by unfold cnt at q;omega
   rw[show (Jz n 37)[i.toNat]? = some (((Ew (n:Int) 37)[i.toNat]:Nat):Int) by
    unfold Jz;rw[List.getElem?_map,List.getElem?_eq_getElem A];rfl]
   rw[List.getElem?_eq_getElem A];rfl)
def Ik (m:Int):Int:=if m>=137438953472 then 5 else if cnt m<2 then 1 else 0
theorem Zut (n:Nat) (q:n<18446744073709551616):(bits .andNot .u64 (n:Int) 137438953471 != 0)=decide ((n:Int)>=137438953472):=by
 rw[show (137438953471:Int)=((137438953471:Nat):Int) from rfl,u64_andNot_nat _ _ q (by decide)];have e:n &&& (18446744073709551615 - 137438953471)=2 ^ 37*(n / 2 ^ 37):=by
  refine Nat.eq_of_testBit_eq fun j=>?_;rw[Nat.testBit_and,show 18446744073709551615 - 137438953471=2 ^ 37*(2 ^ 27 - 1)+0 from rfl,Nat.testBit_two_pow_mul_add _ (by decide),show 2 ^ 37*(n / 2 ^ 37)=2 ^ 37*(n / 2 ^ 37)+0 from rfl,Nat.testBit_two_pow_mul_add _ (by decide)];split
  ·simp
  ·rename_i z;rw[Nat.testBit_div_two_pow,Nat.testBit_two_pow_sub_one,show j - 37+37=j by omega]
   by_cases h:j - 37<27
   ·simp[h]
   ·have:n.testBit j=false:=Nat.testBit_lt_two_pow (Nat.lt_of_lt_of_le q (by
     have:2 ^ 64<=2 ^ j:=Nat.pow_le_pow_right (by decide) (by omega);simpa using this))
    simp[this]
 rw[e]
 by_cases h:(n:Int)>=137438953472
 ·rw[decide_eq_true h];simp;omega
 ·rw[decide_eq_false h,show n / 2 ^ 37=0 by omega];rfl
theorem Zlk (n:Nat) (z:n<18446744073709551616):Zl (n:Int)=some (Ik n):=(AZ _ _).trans (by
 simp only[Z79,DN,Zut n z,Zy n z,Option.bind_some,Ik]
 by_cases h:(n:Int)>=137438953472
 ·rw[decide_eq_true h,if_pos h];rfl
 ·rw[decide_eq_false h,if_neg h]
  by_cases q:cnt n<2
  ·rw[decide_eq_true q,if_pos q];rfl
  ·rw[decide_eq_false q,if_neg q];rfl)
theorem ZsP (n:Nat) (z:n<18446744073709551616):YP (n:Int)=some (Ik n):=(AZ _ _).trans (by
 simp only[Z0Q,DN];rw[show Ro 37=some 137438953472 from Za1 37 (by decide)];simp only[Z1s n z,Option.bind_some,Ik]
 by_cases h:(n:Int)>=137438953472
 ·rw[decide_eq_true h,if_pos h];rfl
 ·rw[decide_eq_false h,if_neg h]
  by_cases q:cnt n<2
  ·rw[decide_eq_true q,if_pos q];rfl
  ·rw[decide_eq_false q,if_neg q];rfl)
def gV (m c:Int):Int:=if has m (cl 0 36 c) then cl 0 36 c else if cnt m=0 then -1 else NC m (Int.tmod (cl 0 36 c) (cnt m))
theorem Z8d (m i:Int):lX m i=some (NC m i):=rfl
theorem Zlz (n:Nat) (q:n<18446744073709551616) (c:Int):ZB (n:Int) c=some (gV n c):=(AZ _ _).trans (by
 simp only[Z7b,DN,Z7S (n:Int) _ (Int.natCast_nonneg n),Zy n q,Z8d,Option.bind_some,cl1 0 36 c (by decide),gV];cases has (n:Int) (cl 0 36 c) with
 | true=>rfl
 | false=>
  by_cases h:cnt n=0
  ·rw[h];rfl
  ·rw[show (cnt (n:Int)==0)=false by simpa using h,show (cnt (n:Int) != 0)=true by simpa using h];simp[h])
theorem ZsZ (n:Nat) (q:n<18446744073709551616) (c:Int):oH (n:Int) c=some (gV n c):=(AZ _ _).trans (by
 simp only[Z1l,DN,Z2E n q,Z1s n q,Zdk n q,Option.bind_some,cl2 0 36 c (by decide),gV];cases has (n:Int) (cl 0 36 c) with
 | true=>rfl
 | false=>
  by_cases h:cnt n=0
  ·rw[h];rfl
  ·rw[show (cnt (n:Int)==0)=false by simpa using h,show (cnt (n:Int) != 0)=true by simpa using h];simp[h])
def R8 (n:Int):Prop:=0<=n/\n<256
def R16 (n:Int):Prop:=0<=n/\n<65536
def R32 (n:Int):Prop:=0<=n/\n<4294967296
def CB (n:Int):Prop:=0<=n/\n<18446744073709551616
inductive CV:AL->Prop
 | upd (u:DL) (i:Int):I7 u=0->R16 i->CV ⟨0,u,0,i,0,0,0,0,0,0,0⟩
 | map (m i:Int):CB m->Ik m=0->R16 i->CV ⟨1,BR,m,i,0,0,0,0,0,0,0⟩
 | term (r:Int):R8 r->CV ⟨2,BR,0,0,r,0,0,0,0,0,0⟩
 | enc (s m:Int):CB s->CB m->CV ⟨3,BR,0,0,0,0,s,m,0,0,0⟩
 | ans (s:Int):CB s->CV ⟨4,BR,0,0,0,0,s,0,0,0,0⟩
 | plain (k:Int):(k=5\/k=6\/k=18\/k=19)->CV ⟨k,BR,0,0,0,0,0,0,0,0,0⟩
 | WG (r:Int):R8 r->CV ⟨7,BR,0,0,0,r,0,0,0,0,0⟩
 | iT (k f:Int):(k=8\/k=9)->CB f->CV ⟨k,BR,0,0,0,0,0,0,f,0,0⟩
 | jB (v:Int):R8 v->CV ⟨12,BR,0,0,0,0,0,0,0,v,0⟩
 | Vy (r k:Int):R8 r->R8 k->CV ⟨13,BR,0,0,r,k,0,0,0,0,0⟩
 | par (u:DL):I7 u=0->CV ⟨15,u,0,0,0,0,0,0,0,0,0⟩
 | len (k n:Int):(k=20\/k=21)->27<=n->n<=251->CV ⟨k,BR,0,0,0,0,0,0,0,0,n⟩
theorem CV.ZEO {c:AL} (h:CV c) (q:c.Kind=20):27<=c.Length/\c.Length<=251:=by
 cases h<;>first|(dsimp only at q;omega)|exact⟨by assumption,by assumption⟩
theorem CV.inst {c:AL} {i:Int} (h:CV c) (z:c.Kind=0\/c.Kind=1) (q:R16 i):CV { c with DF:=i }:=by
 cases h<;>first|(dsimp only at z;omega)|exact CV.upd _ _ (by assumption) q|exact CV.map _ _ (by assumption) (by assumption) q
def CU (l:List Int):Prop:=∀b∈l,R8 b
theorem Zf9 (n:Int):R8 (IntKind.wrap .u8 n):=by unfold R8;rw[IntKind.wrap_u8];omega
theorem Zep (n:Int):R16 (IntKind.wrap .u16 n):=by unfold R16;rw[IntKind.wrap_u16];omega
theorem Zel (n:Int):R32 (IntKind.wrap .u32 n):=by unfold R32;rw[IntKind.wrap_u32];omega
theorem GM (n:Int):CB (IntKind.wrap .u64 n):=by unfold CB;rw[IntKind.wrap_u64];omega
theorem ZEJ (o:BinOp) (a b:Int):R8 (bits o .u8 a b):=Zf9 _
theorem ZDe (o:BinOp) (a b:Int):R16 (bits o .u16 a b):=Zep _
theorem ZDz (o:BinOp) (a b:Int):R32 (bits o .u32 a b):=Zel _
theorem ZCt (o:BinOp) (a b:Int):CB (bits o .u64 a b):=GM _
theorem JI:CB 0:=by unfold CB;omega
theorem ZEK:CB 63:=by unfold CB;omega
theorem gW:R16 0:=by unfold R16;omega
theorem Z4D:R32 0:=by unfold R32;omega
theorem Z3G:CU []:=fun _ h=>nomatch h
theorem ZCQ (a b:List Int):CU (a++b)↔CU a/\CU b:=by simp only[CU,List.mem_append];exact⟨fun h=>⟨fun x q=>h x (.inl q),fun x q=>h x (.inr q)⟩,fun h x q=>q.elim (h.1 x) (h.2 x)⟩
theorem ZA8 (a:Int) (b:List Int):CU (a::b)↔R8 a/\CU b:=by simp only[CU,List.mem_cons,forall_eq_or_imp]
theorem ZAC (n:Nat) (l:List Int) (h:CU l):CU (l.take n):=fun x q=>h x (List.mem_of_mem_take q)
theorem ZA1 (n:Nat) (l:List Int) (h:CU l):CU (l.drop n):=fun x q=>h x (List.mem_of_mem_drop q)
theorem ZCL {l:List Int} (h:CU l) {x:Int} (q:x∈l):R8 x:=h x q
theorem ZvG (xs:List Int):Le.bytesOf (xs.map (U.enc 5))=some (xs.map fun n=>UInt8.ofNat n.toNat):=by
 induction xs with
 | nil=>rfl
 | cons x xs z=>
  rw[List.map_cons];show (match Le.byteOf (U.enc 5 x),Le.bytesOf (xs.map (U.enc 5)) with|some b,some q=>some (b::q)|_,_=>none)=_;rw[z];rfl
theorem GX (xs:List Int) (h:xs.length<=1000000):MB U 5 xs=true:=by
 unfold MB;rw[ZvG];exact decide_eq_true (by rw[List.length_map];exact Nat.le_trans (Nat.le_trans h (by decide)) (by decide:1000000000<=maxLen))
def Bj (c:AL):Prop:=CB c.Map/\R16 c.DF/\CB c.Bq/\CB c.Mark/\CB c.CW/\0<=c.Kind
theorem CV.ct {c:AL} (h:CV c):Bj c:=by
 cases h<;>refine⟨?_,?_,?_,?_,?_,?_⟩<;>first|assumption|exact JI|exact gW|(dsimp only;omega)
theorem CV.unkK (k:Int):CV ⟨7,BR,0,0,0,(if (255:Int)<(if (0:Int)>k then (0:Int) else k) then (255:Int) else (if (0:Int)>k then (0:Int) else k)),0,0,0,0,0⟩:=CV.WG _ (by unfold R8;split<;>split<;>omega)
theorem CV.unkW {x:Int} (h:R8 x):CV ⟨7,BR,0,0,0,AP x,0,0,0,0,0⟩:=by obtain⟨q,z⟩:=h;rw[Bo (by omega) (by omega)];exact CV.WG _ ⟨q,z⟩
theorem CV.rejK:CV ⟨13,BR,0,0,6,3,0,0,0,0,0⟩:=CV.Vy _ _ ⟨by decide,by decide⟩ ⟨by decide,by decide⟩
theorem CV.rejC:CV ⟨13,BR,0,0,42,15,0,0,0,0,0⟩:=CV.Vy _ _ ⟨by decide,by decide⟩ ⟨by decide,by decide⟩
theorem CV.verK:CV ⟨12,BR,0,0,0,0,0,0,0,11,0⟩:=CV.jB _ ⟨by decide,by decide⟩
def Kw (c:BP):Prop:=CB c.Map/\R16 c.DF
def FC (l:List AL):Prop:=∀c∈l,CV c
def FT (l:List BP):Prop:=∀c∈l,Kw c
def CG (p:Aw):Prop:=p.Payload.length<=65536/\CU p.Payload
def Ef (p:Aw):Prop:=1<=p.Ba/\p.Ba<=3/\1<=p.Payload.length/\p.Payload.length<=251/\CU p.Payload
def Je (l:List Aw):Prop:=∀p∈l,Ef p
def Di (n:Int):Prop:=n=0\/n=1
theorem ZEi:Di 0:=.inl rfl
theorem ZE3:Di 1:=.inr rfl
theorem Zyx {n:Int} (h:Di n):Di (AP (1 - n)):=by rcases h with rfl|rfl<;>first|exact .inr rfl|exact .inl rfl
def DJ (a:BQ):Prop:=Di a.SN/\Di a.Dp/\a.BA.length<=64/\Je a.BA/\(a.Open=true->a.Empty=false->0<a.BA.length)
def BK (s:Aa):Prop:=s.BJ.length<=8/\s.CO.length<=1/\FC s.BJ/\FT s.CO/\CB s.CW/\CB s.Bq/\CB s.Jc/\CB s.Mark/\Di s.Bz /\ -1<=s.Own /\ -1<=s.Other/\27<=s.Limit/\s.Limit<=251
def Gv (s:Cb):Prop:=CB s.Key/\CB s.Bq/\CB s.Tx/\CB s.Rx
def JR (p:Ey):Prop:=R32 p.IK/\R32 p.FQ/\CB p.Map
def BO (k:Int) (l:A8):Prop:=DJ l.Az/\BK l.Am/\Gv l.DY/\JR l.Bl/\(l.BC.length:Int)<=k/\FC l.BC/\l.DI.length<=37/\R16 l.Event/\CB l.Key/\CB l.Ic/\Di l.Bz
def Em (a:Gi):Prop:=CG a.Ak/\a.Ak.Payload.length<=4096/\CB a.Map/\CB a.Number/\CB a.Key
def wE (a:Gi):Prop:=CU a.Ak.Payload/\CB a.Map/\CB a.Number/\CB a.Key
def Ir (e:Ej):Prop:=∀a∈e.RQ,wE a
theorem ZB7 {e:Ej} (h:Ir e) {a:Gi} (q:a∈e.RQ):wE a:=h a q
def DW (k:Int) (s:CQ):Prop:=BO k s.x0/\BO k s.x1
theorem GI {a b:Int} {l:A8} (h:BO a l) (q:a<=b):BO b l:=⟨h.1,h.2.1,h.2.2.1,h.2.2.2.1,Int.le_trans h.2.2.2.2.1 q,h.2.2.2.2.2⟩
theorem Gp {a b:Int} {s:CQ} (h:DW a s) (q:a<=b):DW b s:=⟨GI h.1 q,GI h.2 q⟩
def evL (l:List Ej):Prop:=∀e∈l,Ir e
theorem ZCg {l:List Ej} (h:evL l) {e:Ej} (q:e∈l):Ir e:=h e q
def EN (x:Iy):Prop:=JR x.Bl/\CB x.Keys.x0/\CB x.Keys.x1/\evL x.Events
def Ht (l:List Int):Prop:=∀x∈l,0<=x/\x<=36
theorem ZA5:Ht []:=fun _ h=>nomatch h
theorem ZAv (a b:List Int):Ht (a++b)↔Ht a/\Ht b:=by simp only[Ht,List.mem_append];exact⟨fun h=>⟨fun x q=>h x (.inl q),fun x q=>h x (.inr q)⟩,fun h x q=>q.elim (h.1 x) (h.2 x)⟩
theorem Zyf (a:Int) (b:List Int):Ht (a::b)↔(0<=a/\a<=36)/\Ht b:=by simp only[Ht,List.mem_cons,forall_eq_or_imp]
theorem ZyH (n:Nat) (l:List Int) (h:Ht l):Ht (l.take n):=fun x q=>h x (List.mem_of_mem_take q)
theorem Zyi (n:Nat) (l:List Int) (h:Ht l):Ht (l.drop n):=fun x q=>h x (List.mem_of_mem_drop q)
theorem ZAw {l:List Int} (h:Ht l) {x:Int} (q:x∈l):0<=x/\x<=36:=h x q
theorem ZCx:FC []:=fun _ h=>nomatch h
theorem ZDy (a b:List AL):FC (a++b)↔FC a/\FC b:=by simp only[FC,List.mem_append];exact⟨fun h=>⟨fun x q=>h x (.inl q),fun x q=>h x (.inr q)⟩,fun h x q=>q.elim (h.1 x) (h.2 x)⟩
theorem ZBp (a:AL) (b:List AL):FC (a::b)↔CV a/\FC b:=by simp only[FC,List.mem_cons,forall_eq_or_imp]
theorem ZAz (n:Nat) (l:List AL) (h:FC l):FC (l.take n):=fun x q=>h x (List.mem_of_mem_take q)
theorem ZAN (n:Nat) (l:List AL) (h:FC l):FC (l.drop n):=fun x q=>h x (List.mem_of_mem_drop q)
theorem ZDC {l:List AL} (h:FC l) {x:AL} (q:x∈l):CV x:=h x q
theorem ZBq:FT []:=fun _ h=>nomatch h
theorem ZAM (a b:List BP):FT (a++b)↔FT a/\FT b:=by simp only[FT,List.mem_append];exact⟨fun h=>⟨fun x q=>h x (.inl q),fun x q=>h x (.inr q)⟩,fun h x q=>q.elim (h.1 x) (h.2 x)⟩
theorem Zxu (a:BP) (b:List BP):FT (a::b)↔Kw a/\FT b:=by simp only[FT,List.mem_cons,forall_eq_or_imp]
theorem ZzZ {l:List BP} (h:FT l) {x:BP} (q:x∈l):Kw x:=h x q
theorem Zey:Je []:=fun _ h=>nomatch h
theorem ZCz (a b:List Aw):Je (a++b)↔Je a/\Je b:=by simp only[Je,List.mem_append];exact⟨fun h=>⟨fun x q=>h x (.inl q),fun x q=>h x (.inr q)⟩,fun h x q=>q.elim (h.1 x) (h.2 x)⟩
theorem ZAq (a:Aw) (b:List Aw):Je (a::b)↔Ef a/\Je b:=by simp only[Je,List.mem_cons,forall_eq_or_imp]
theorem ZAY (n:Nat) (l:List Aw) (h:Je l):Je (l.take n):=fun x q=>h x (List.mem_of_mem_take q)
theorem ZAl (n:Nat) (l:List Aw) (h:Je l):Je (l.drop n):=fun x q=>h x (List.mem_of_mem_drop q)
theorem ZCm {l:List Aw} (h:Je l) {x:Aw} (q:x∈l):Ef x:=h x q
theorem ZCG:DJ Jj:=⟨.inl rfl,.inl rfl,Nat.zero_le _,Zey,fun h=>nomatch h⟩
theorem ZFo:Gv Rh:=⟨JI,JI,JI,JI⟩
theorem ZE1:JR Z6I:=⟨Z4D,Z4D,JI⟩
theorem ZEC:Bj Gg:=⟨JI,gW,JI,JI,JI,by decide⟩
theorem ZFG:Kw U0:=⟨JI,gW⟩
theorem ZEH:CG E5.Ak:=⟨Nat.zero_le _,Z3G⟩
def Ez:List Be:=[⟨true,true,false,true,false,false,false,false,false,false,false⟩,⟨true,false,true,true,false,false,false,false,false,false,false⟩,⟨true,false,false,false,true,false,false,false,false,false,false⟩,⟨true,false,false,false,false,false,true,true,false,false,false⟩,⟨true,false,false,false,false,false,true,false,false,false,false⟩,⟨true,false,false,false,false,false,false,false,false,false,false⟩,⟨true,false,false,false,false,true,false,false,false,false,false⟩,⟨true,false,false,false,false,false,false,false,true,false,false⟩,⟨true,false,false,false,false,false,false,false,false,true,false⟩,⟨true,false,false,false,true,true,false,false,false,false,false⟩,⟨true,true,false,false,false,false,false,false,false,false,false⟩,⟨true,false,false,false,false,false,false,false,false,false,true⟩,⟨false,false,false,false,false,false,false,false,false,false,false⟩]
def D8 (u:Be):Prop:=u∈Ez
def Gx (u:Be):Int:=1+cond u.BI 9 0+cond u.Map 5 0+cond u.DF 2 0+cond (u.Bd||u.Version||u.Length) 1 0+cond u.DT 1 0+cond (u.Bq||u.CW) 8 0+cond u.Mark 8 0
theorem ZAA {l:List Int} {v:Int} (h:CU l) (z:v∈l):Bj ⟨AP v,BR,0,0,0,0,0,0,0,0,0⟩:=by
 obtain⟨q,A⟩:=h v z;refine⟨JI,gW,JI,JI,JI,?_⟩;show 0<=AP v;rw[Bo (by omega) (by omega)];exact q
attribute [grind] BO DJ BK Gv JR Bj Kw Em wE DW EN CG Ef
attribute [grind .] CV.upd CV.map CV.term CV.enc CV.ans CV.plain CV.WG CV.iT CV.jB CV.Vy CV.par CV.len CV.inst CV.unkK CV.unkW CV.rejK CV.rejC CV.verK ZEi ZE3 Zf9 Zep Zel GM ZEJ ZDe ZDz ZCt ZCG ZFo ZE1 ZEC ZFG ZEH JI ZEK gW Z4D Z3G ZAC ZA1 ZA5 ZyH Zyi ZCx ZAz ZAN ZBq Zey ZAY ZAl
attribute [grind =] ZCQ ZA8 List.length_take List.length_drop ZAv Zyf ZDy ZBp ZAM Zxu ZCz ZAq
attribute [grind ->] CV.ct CV.ZEO Zyx ZB7 ZCg ZCL ZAw ZDC ZzZ ZCm
set_option maxHeartbeats 2000000
def Z3D (l:List Int):Prop:=MB U 5 l=true
theorem Zal (p:Aw) (h:Z3D p.Payload):UG p p=some true:=(AZ _ _).trans (by
 simp only[Z6S,DN,beq_self_eq_true,cond_true];rw[show MB U 5 p.Payload=true from h];rfl)
theorem ZpM (xs:List Aw) (C:xs.length<4611686018427387904) (h:∀p∈xs,Z3D p.Payload):yY xs xs=some true:=(AZ _ _).trans (by
 have step:∀j i:Nat,i+j=xs.length->AV Wq (.b1 xs xs i)=some true:=by
  intro j;induction j with
  | zero=>
   intro i z;refine(AZ _ _).trans ?_;simp only[Wq,DN];rw[show decide ((i:Int)<(xs.length:Int))=false by simp;omega];rfl
  | succ j A=>
   intro i z;have q:i<xs.length:=by omega
   refine(AZ _ _).trans ?_;simp only[Wq,DN];rw[show decide ((i:Int)<(xs.length:Int))=true by simp;omega,show decide (0<=(i:Int)/\(i:Int)<(xs.length:Int))=true by simp;omega];simp only[cond_true,Int.toNat_natCast,List.getElem?_eq_getElem q,Option.bind_some,Zal _ (h _ (List.getElem_mem q)),Bool.not_true,cond_false];rw[Bo (by omega) (by omega)];exact A (i+1) (by omega)
 simp only[Wq,DN,bne_self_eq_false,cond_false];exact step xs.length 0 (by omega))
theorem Z8B (xs:List AL) (C:xs.length<4611686018427387904):kH xs xs=some true:=(AZ _ _).trans (by
 have step:∀j i:Nat,i+j=xs.length->AV WZ (.b1 xs xs i)=some true:=by
  intro j;induction j with
  | zero=>
   intro i q;refine(AZ _ _).trans ?_;simp only[WZ,DN];rw[show decide ((i:Int)<(xs.length:Int))=false by simp;omega];rfl
  | succ j A=>
   intro i q;have z:i<xs.length:=by omega
   refine(AZ _ _).trans ?_;simp only[WZ,DN];rw[show decide ((i:Int)<(xs.length:Int))=true by simp;omega,show decide (0<=(i:Int)/\(i:Int)<(xs.length:Int))=true by simp;omega];simp only[cond_true,Int.toNat_natCast,List.getElem?_eq_getElem z,Option.bind_some,Gn,beq_self_eq_true,Bool.and_true,Bool.not_true,cond_false];rw[Bo (by omega) (by omega)];exact A (i+1) (by omega)
 simp only[WZ,DN,bne_self_eq_false,cond_false];exact step xs.length 0 (by omega))
theorem ZwY (p:Aa) (q:p.BJ.length<4611686018427387904) (D:p.CO.length<4611686018427387904):Zx p p=some true:=(AZ _ _).trans (by
 have step:∀j i:Nat,i+j=p.CO.length->AV XD (.b2 i p p)=some true:=by
  intro j;induction j with
  | zero=>
   intro i z;refine(AZ _ _).trans ?_;simp only[XD,DN];rw[show decide ((i:Int)<(p.CO.length:Int))=false by simp;omega];simp only[beq_self_eq_true,cond_true,cond_false]
  | succ j C=>
   intro i z;have A:i<p.CO.length:=by omega
   refine(AZ _ _).trans ?_;simp only[XD,DN];rw[show decide ((i:Int)<(p.CO.length:Int))=true by simp;omega,show decide (0<=(i:Int)/\(i:Int)<(p.CO.length:Int))=true by simp;omega];simp only[cond_true,Int.toNat_natCast,List.getElem?_eq_getElem A,Option.bind_some,Gn,beq_self_eq_true,Bool.and_true,Bool.not_true,cond_false];rw[Bo (by omega) (by omega)];exact C (i+1) (by omega)
 simp only[XD,DN,Z8B _ q,Option.bind_some,Bool.not_true,cond_false,bne_self_eq_false];refine(AZ _ _).trans ?_;exact step p.CO.length 0 (by omega))
structure LWF (l:A8):Prop where
 tal:l.DI.length<4611686018427387904
 que:l.Az.BA.length<4611686018427387904
 pay:∀p∈l.Az.BA,Z3D p.Payload
 wai:l.Am.BJ.length<4611686018427387904
 pen:l.Am.CO.length<4611686018427387904
 com:l.BC.length<4611686018427387904
theorem Zzv (l:A8) (h:LWF l):Z29 l l=some true:=(AZ _ _).trans (by
 have A:AV NJ (.b4 l l)=some true:=(AZ _ _).trans (by
  simp only[NJ,DN,ZwY _ h.wai h.pen,Z8B _ h.com,Option.bind_some,beq_self_eq_true,cond_true])
 have z:AV NJ (.b3 l l)=some true:=(AZ _ _).trans (by
  simp only[NJ,DN,beq_self_eq_true,Bool.and_true,Bool.not_true,cond_false,A])
 have q:AV NJ (.b2 l l)=some true:=(AZ _ _).trans (by
  simp only[NJ,DN,beq_self_eq_true,Bool.and_true,Bool.not_true,cond_false,bne_self_eq_false,z])
 have step:∀j i:Nat,i+j=l.DI.length->AV NJ (.b1 i l l)=some true:=by
  intro j;induction j with
  | zero=>
   intro i C;refine(AZ _ _).trans ?_;simp only[NJ,DN];rw[show decide ((i:Int)<(l.DI.length:Int))=false by simp;omega];simp only[beq_self_eq_true,Bool.not_true,cond_false,bne_self_eq_false,ZpM _ h.que h.pay,Option.bind_some,q]
  | succ j F=>
   intro i C;have D:i<l.DI.length:=by omega
   have G:=h.tal;refine(AZ _ _).trans ?_;simp only[NJ,DN];rw[show decide ((i:Int)<(l.DI.length:Int))=true by simp;omega,show decide (0<=(i:Int)/\(i:Int)<(l.DI.length:Int))=true by simp;omega];simp only[cond_true,Int.toNat_natCast,List.getElem?_eq_getElem D,Option.bind_some,Gn,beq_self_eq_true,Bool.and_true,Bool.not_true,cond_false];rw[Bo (by omega) (by omega)];exact F (i+1) (by omega)
 simp only[NJ,DN,bne_self_eq_false,cond_false];exact step l.DI.length 0 (by omega))
theorem BO.lwf {k:Int} {l:A8} (h:BO k l) (Y:k<=1000000):LWF l:=by
 obtain⟨z,A,J,M,N,O,Q,S⟩:=h;obtain⟨D,F,G,q,I⟩:=z;obtain⟨b1,b2,b3⟩:=A;refine⟨by omega,by omega,fun p C=>GX _ ?_,by omega,by omega,by omega⟩;have:=(q p C).2.2.2.1;omega
theorem ZhM (p0:List Int) (h:p0.length<=1000000):∃r,NF p0=some r/\r.q0=p0:=⟨⟨p0⟩,if_pos ⟨by rw[Cf];omega,by rw[maxLen_eq];omega⟩,rfl⟩
theorem Z5d (p0:List AL) (h:p0.length<=1000000):∃r,WO p0=some r/\r.q0=p0:=⟨⟨p0⟩,if_pos ⟨by rw[Cf];omega,by rw[maxLen_eq];omega⟩,rfl⟩
theorem ZgA (p0:List BP) (h:p0.length<=1000000):∃r,jJ p0=some r/\r.q0=p0:=⟨⟨p0⟩,if_pos ⟨by rw[Cf];omega,by rw[maxLen_eq];omega⟩,rfl⟩
theorem ZgL (p0:List BV) (h:p0.length<=1000000):∃r,jO p0=some r/\r.q0=p0:=⟨⟨p0⟩,if_pos ⟨by rw[Cf];omega,by rw[maxLen_eq];omega⟩,rfl⟩
theorem ZE0 {L:Type} {t:Nat} {l:List (U.Ty t)} {i:Int} {k:U.Ty t->Tr U L} {Q:L->Prop} (h:0<=i/\i<(l.length:Int)) (g:∀q:i.toNat<l.length,Tot (k l[i.toNat]) Q):Tot (.bind t (l[Int.toNat i]?) k) Q:=by
 have q:i.toNat<l.length:=by omega
 exact⟨l[i.toNat],List.getElem?_eq_getElem q,g q⟩
theorem rJ {L:Type} {l:List Aw} {i:Int} {k:Aw->Tr U L} {Q:L->Prop} (h:0<=i/\i<(l.length:Int)) (g:∀q:i.toNat<l.length,Tot (k l[i.toNat]) Q):Tot (Tr.bind (U:=U) 68 (l[Int.toNat i]? : Option Aw) k) Q:=ZE0 (t:=68) h g
theorem take_set {α:Type} {a b:List α} {n:Nat} (A:n<b.length) (C:a.length=b.length) (h:a.take n=b.take n):(a.set n b[n]).take (n+1)=b.take (n+1):=by
 apply List.ext_getElem?;intro j;rw[List.getElem?_take,List.getElem?_take]
 by_cases z:j<n+1
 ·rw[if_pos z,if_pos z,List.getElem?_set]
  by_cases q:n=j
  ·subst q;rw[if_pos rfl,if_pos (by omega)];exact(List.getElem?_eq_getElem A).symm
  ·rw[if_neg q];have:=congrArg (fun l=>l[j]?) h;simp only[List.getElem?_take]at this;rw[if_pos (by omega),if_pos (by omega)]at this;exact this
 ·rw[if_neg z,if_neg z]
theorem Zs2 (k:Int) (q:A8) (Y:BO k q) (I:0<=k) (h2:k<=1000000):∃r,Z1q q=some r/\(r.q0=⟨q,[]⟩):=by
 have hq:=Y;dsimp only[BO,DJ,BK]at hq;have M:∀p∈q.Az.BA,p.Payload.length<=1000000:=fun p C=>by
  have:=(Y.1.2.2.2.1 p C).2.2.2.1;omega
 refine BG (T:=nS) (post:=fun r=>r.q0=⟨q,[]⟩) (fun p=>match p with | .b0 A=>A=q | .b1 A G F z D=>D=q/\G=q.Az.BA/\F=(q.Az.BA.length:Int)/\A.length=q.Az.BA.length/\0<=z/\z<=(q.Az.BA.length:Int)/\A.take z.toNat=q.Az.BA.take z.toNat)
  (fun p=>match p with | .b0 _=>(1,0,0) | .b1 A G F z D=>(0,(F - z).toNat,0)) ?_ (.b0 q) rfl
 intro p C;cases p with
 | b0 A=>
  dsimp only at C;subst C;simp only[nS];refine Dw (by simp[kL,kA,Cf,maxLen_eq]<;>omega) ?_;refine Dw (by simp[kL,kA,Cf,maxLen_eq]<;>omega) ?_;refine EM ?_;exact⟨⟨rfl,rfl,rfl,by rw[List.length_replicate];omega,by omega,by omega,by simp⟩,Zfq (by omega)⟩
 | b1 A G F z D=>
  dsimp only at C;obtain⟨rfl,rfl,rfl,J,g1,g2,ht⟩:=C;simp only[nS];refine EG (fun h=>?_) (fun h=>?_)
  ·simp only[decide_eq_true_eq,decide_eq_false_iff_not]at h;refine Dw (by simp[kL,kA,Cf,maxLen_eq]<;>omega) ?_;refine rJ (by omega) (fun hi=>?_);refine Ar (ZhM _ (M _ (List.getElem_mem hi))) (fun(v:QG) hm hv=>?_);refine Dw (by simp[kL,kA,Cf,maxLen_eq]<;>omega) ?_;refine Dw (by simp[kL,kA,Cf,maxLen_eq]<;>omega) ?_;refine Dw (by simp[kL,kA,Cf,maxLen_eq]<;>omega) ?_;refine rJ (by omega) (fun hi' =>?_);refine Dw (by simp[kL,kA,Cf,maxLen_eq]<;>omega) ?_;refine Dw (by simp[kL,kA,Cf,maxLen_eq]<;>omega) ?_;refine EM ?_;dsimp only;rw[Bo (by omega) (by omega),hv];refine⟨⟨rfl,rfl,rfl,by rw[List.length_set];exact J,by omega,by omega,?_⟩,Zfn (by omega)⟩;rw[show (z+1).toNat=z.toNat+1 by omega];exact take_set hi J ht
  ·simp only[decide_eq_true_eq,decide_eq_false_iff_not]at h;have he:A=D.Az.BA:=by
    have e1:z.toNat=A.length:=by omega
    have e2:z.toNat=D.Az.BA.length:=by omega
    have I:=ht;rw[e1,List.take_length]at I;rw[I,J,List.take_length]
   subst he;refine Ar (Z5d _ (by omega)) (fun(v1:RV) hm1 N=>?_);refine Ar (ZgA _ (by omega)) (fun(v2:WQ) hm2 O=>?_);refine Ar (ZgL _ (by omega)) (fun(v3:WR) hm3 Q=>?_);refine Ar (Z5d _ (by omega)) (fun(v4:RV) hm4 S=>?_);refine Dw (by simp) ?_;refine EM ?_;dsimp only;rw[N,O,Q,S]
theorem ZjT (p0:List Aw) (M:p0.length<=64) (F:Je p0):∃r,yZ p0=some r/\r=p0:=by
 refine BG (T:=kQ) (post:=fun r=>r=p0) (fun p=>match p with | .b0 z=>z=p0 | .b1 z C q=>z=p0/\0<=q/\q<=(p0.length:Int)/\C=p0.take q.toNat)
  (fun p=>match p with | .b0 _=>(1,0,0) | .b1 z C q=>(0,((z.length:Int) - q).toNat,0)) ?_ (.b0 p0) rfl
 intro p A;cases p with
 | b0 z=>
  dsimp only at A;subst A;simp only[kQ];refine Dw (by simp[kL,kA,Cf,maxLen_eq]<;>omega) ?_;refine EM ?_;exact⟨⟨rfl,by omega,by omega,by simp⟩,Zfq (by omega)⟩
 | b1 z C q=>
  dsimp only at A;obtain⟨rfl,I,J,rfl⟩:=A;simp only[kQ];refine EG (fun h=>?_) (fun h=>?_)
  ·simp only[decide_eq_true_eq,decide_eq_false_iff_not]at h;refine Dw (by simp[kL,kA,Cf,maxLen_eq]<;>omega) ?_;refine rJ (by omega) (fun D=>?_);have G:=(F _ (List.getElem_mem D)).2.2.2.1;refine Dw (by simp[kL,kA,Cf,maxLen_eq]<;>omega) ?_;refine rJ (by omega) (fun hi' =>?_);refine Dw (by simp[kL,kA,Cf,maxLen_eq]<;>omega) ?_;refine Dw (by simp[kL,kA,Cf,maxLen_eq]<;>omega) ?_;refine Dw (by simp) ?_;refine Dw (by simp[kL,kA,Cf,maxLen_eq]<;>omega) ?_;refine Dw (by simp[kL,kA,Cf,maxLen_eq]<;>omega) ?_;refine Dw (by simp[kL,kA,Cf,maxLen_eq]<;>omega) ?_;refine Dw (by simp) ?_;refine EM ?_;dsimp only;rw[Bo (by omega) (by omega),List.nil_append];refine⟨⟨rfl,by omega,by omega,?_⟩,Zfn (by omega)⟩;rw[show (q+1).toNat=q.toNat+1 by omega]
   first|exact List.take_append_getElem D|exact(List.take_append_getElem D).symm|simp
  ·simp only[decide_eq_true_eq,decide_eq_false_iff_not]at h;refine Dw (by simp[kL,kA,Cf,maxLen_eq]<;>omega) ?_;refine EM ?_;dsimp only;rw[show q.toNat=z.length by omega,List.take_length]
theorem Fq {n:Int} (h : -9223372036854775808<=n) (q : n<=9223372036854775807):AP n=n:=by
 simp only[AP,IntKind.wrap,IntKind.signed,IntKind.bits];simp;omega
theorem Qa (i:Nat) (h:i<4611686018427387904):AP ((i:Int)+1)=((i+1:Nat):Int):=by
 rw[Fq (by omega) (by omega)];simp
theorem wu64 {n:Int} (h:0<=n) (q : n<18446744073709551616):IntKind.wrap .u64 n=n:=by rw[IntKind.wrap_u64];exact Int.emod_eq_of_lt h q
theorem J9 {n:Int} (h:0<=n) (q : n<4294967296):IntKind.wrap .u32 n=n:=by rw[IntKind.wrap_u32];exact Int.emod_eq_of_lt h q
theorem wu16 {n:Int} (h:0<=n) (q : n<65536):IntKind.wrap .u16 n=n:=by rw[IntKind.wrap_u16];exact Int.emod_eq_of_lt h q
theorem Oq {n:Int} (h:0<=n) (q : n<256):IntKind.wrap .u8 n=n:=by rw[IntKind.wrap_u8];exact Int.emod_eq_of_lt h q
theorem wG (n:Int):0<=IntKind.wrap .u64 n/\IntKind.wrap .u64 n<18446744073709551616:=by rw[IntKind.wrap_u64];omega
theorem r32 (n:Int):0<=IntKind.wrap .u32 n/\IntKind.wrap .u32 n<4294967296:=by rw[IntKind.wrap_u32];omega
theorem r8 (n:Int):0<=IntKind.wrap .u8 n/\IntKind.wrap .u8 n<256:=by rw[IntKind.wrap_u8];omega
theorem b64 (o:BinOp) (a b:Int):0<=bits o .u64 a b/\bits o .u64 a b<18446744073709551616:=wG _
theorem b32 (o:BinOp) (a b:Int):0<=bits o .u32 a b/\bits o .u32 a b<4294967296:=r32 _
theorem b8 (o:BinOp) (a b:Int):0<=bits o .u8 a b/\bits o .u8 a b<256:=r8 _
theorem wraps_u64 (n:Int) (q:0<=n) (z:n<2 ^ 64):IntKind.u64.wrap n=n:=wu64 q z
theorem wraps_u32 (n:Int) (q:0<=n) (z:n<2 ^ 32):IntKind.u32.wrap n=n:=J9 q z
theorem Zfz (k:IntKind) (j:Nat) (D:j<=k.bits) (F:∀n:Int,0<=n->n<2 ^ j->k.wrap n=n) (i:Nat) (I:i<=j)
  (x y:Int) (C:0<=y) (J:y % 2 ^ i=0) (z:y<2 ^ j) (A:0<=x) (G:x<2 ^ i):bits .or k x y=x+y:=by
 have q:x<2 ^ j:=Int.lt_of_lt_of_le G (by exact_mod_cast Nat.pow_le_pow_right (by decide) I);have h:=bits_join k j D F i y x C J z A G q;obtain⟨a,rfl⟩:=Int.eq_ofNat_of_zero_le A;obtain⟨b,rfl⟩:=Int.eq_ofNat_of_zero_le C;rw[(bits_nat k j D F b a (by exact_mod_cast z) (by exact_mod_cast q)).2]at h;rw[(bits_nat k j D F a b (by exact_mod_cast q) (by exact_mod_cast z)).2,Nat.or_comm,h,Int.add_comm]
theorem ZEp {i n:Nat} (h:i<n):decide (i<n)=true:=decide_eq_true h
theorem ZBE {i n:Nat} (h:n<=i):decide (i<n)=false:=decide_eq_false (by omega)
theorem Sr:1000000000<=lim:=by decide
theorem SG:1000000000<=maxLen:=by decide
theorem Z3R (a b k:Nat) (h:a+b<=1000000) (z:k<=1000):(decide ((a+b)*k<=lim)&&decide (a+b<=maxLen))=true:=by
 have q:(a+b)*k<=1000000000:=Nat.le_trans (Nat.mul_le_mul h z) (by decide);exact Bool.and_eq_true_iff.mpr ⟨decide_eq_true (Nat.le_trans q Sr),decide_eq_true (Nat.le_trans (Nat.le_trans h (by decide)) SG)⟩
theorem ZDh (a k:Nat) (h:a<=1000000) (q:k<=1000):(decide (a*k<=lim)&&decide (a<=maxLen))=true:=by
 simpa using Z3R 0 a k (by simpa using h) q
theorem SL:(∀n:Nat,(0:Int)<=(n:Int))/\(∀n m:Nat,((n:Int)<(m:Int))↔n<m)/\(∀n:Nat,Int.toNat (n:Int)=n) /\
  (∀(α:Type) (l:List α) (i:Nat) (h:i<l.length),l[i]? = some l[i])/\(∀(α:Type) [BEq α] [ReflBEq α] (a:α),(a==a)=true) /\
  (∀a:Bool,(a&&true)=a)/\(∀a:Bool,(true&&a)=a)/\(∀(α:Type) (a b:List α),(a++b).length=a.length+b.length)/\(∀(α:Type) (a:List α),[]++a=a)/\(∀n:Nat,0+n=n) /\
  (∀a b k:Nat,a+b<=1000000->k<=1000->(decide ((a+b)*k<=lim)&&decide (a+b<=maxLen))=true)/\(∀a k:Nat,a<=1000000->k<=1000->(decide (a*k<=lim)&&decide (a<=maxLen))=true) /\
  (∀i:Nat,i<4611686018427387904->AP ((i:Int)+1)=((i+1:Nat):Int))/\(∀i n:Nat,i<n->decide (i<n)=true)/\(∀i n:Nat,n<=i->decide (i<n)=false):=
 ⟨Int.natCast_nonneg,@Int.ofNat_lt,Int.toNat_natCast,fun _ _ _ h=>List.getElem?_eq_getElem h,fun _ _ _ a=>beq_self_eq_true a,Bool.and_true,Bool.true_and,fun _ _ _=>List.length_append,fun _ a=>List.nil_append a,Nat.zero_add,Z3R,ZDh,Qa,fun _ _ h=>ZEp h,fun _ _ h=>ZBE h⟩
theorem SM:(∀(α q:Type) (a:α) (f:α->Option q),(some a).bind f=f a)/\(decide True=true)/\(decide False=false)/\(∀(α:Type) (a b:α),cond true a b=a)/\(∀(α:Type) (a b:α),cond false a b=b) /\
  (∀p:Prop,(True/\p)=p)/\(∀p:Prop,(p/\True)=p)/\(∀α:Type,([]:List α).length=0)/\(∀(α:Type) (a:α) (l:List α),(a::l).length=l.length+1)/\((!true)=false)/\((!false)=true):=
 ⟨fun _ _ _ _=>rfl,rfl,rfl,fun _ _ _=>rfl,fun _ _ _=>rfl,true_and,and_true,fun _=>rfl,fun _ _ _=>rfl,rfl,rfl⟩
theorem Z2s {S R α:Type} (F:S->Int->Option R) (xs:List α) (step:S->α->S) (q:S->Option R) (Inv:Nat->S->Prop)
  (A:∀(i:Nat) s (h:i<xs.length),Inv i s->F s i=F (step s xs[i]) ((i+1:Nat):Int)/\Inv (i+1) (step s xs[i]))
  (G:∀s,Inv xs.length s->F s (xs.length:Int)=q s) (s:S) (N:Inv 0 s):F s 0=q (xs.foldl step s)/\Inv xs.length (xs.foldl step s):=by
 have key:∀(ys D:List α) (s:S),xs=ys++D->Inv ys.length s->F s (ys.length:Int)=q (D.foldl step s)/\Inv xs.length (D.foldl step s):=by
  intro ys D;induction D generalizing ys with
  | nil=>
   intro s C I;rw[List.append_nil]at C;subst C;exact⟨G s I,I⟩
  | cons z D Y=>
   intro s C I;have O:ys.length<xs.length:=by rw[C];simp
   have Q:xs[ys.length]=z:=by simp[C]
   obtain⟨J,M⟩:=A ys.length s O I;rw[Q]at J M;rw[J];have:=Y (ys++[z]) (step s z) (by simp[C]) (by simpa using M);simpa using this
 exact key [] xs s rfl N
theorem ZxS {α q:Type} (f:α->List q) (xs:List α) (s:List q):xs.foldl (fun s x=>s++f x) s=s++xs.flatMap f:=by
 induction xs generalizing s with
 | nil=>simp
 | cons x xs z=>simp[List.foldl_cons,z,List.append_assoc]
def Bytes (xs:List Int):Prop:=∀x∈xs,0<=x/\x<256
theorem Bytes.nil:Bytes []:=fun _ h=>by cases h
theorem Bytes.cons {x:Int} {xs:List Int} (h:0<=x/\x<256) (q:Bytes xs):Bytes (x::xs):=fun y hy=>by
 rcases List.mem_cons.1 hy with rfl|hy
 ·exact h
 ·exact q y hy
theorem Bytes.app {xs ys:List Int} (q:Bytes xs) (z:Bytes ys):Bytes (xs++ys):=fun y h=>(List.mem_append.1 h).elim (q y) (z y)
theorem Bytes.sub {xs ys:List Int} (q:Bytes xs) (h:∀y∈ys,y∈xs):Bytes ys:=fun y z=>q y (h y z)
theorem Bytes.take {xs:List Int} (q:Bytes xs) (n:Nat):Bytes (xs.take n):=q.sub fun _ h=>List.mem_of_mem_take h
theorem Bytes.drop {xs:List Int} (q:Bytes xs) (n:Nat):Bytes (xs.drop n):=q.sub fun _ h=>List.mem_of_mem_drop h
theorem Bytes.get {xs:List Int} (q:Bytes xs) (i:Nat) (h:i<xs.length):0<=xs[i]/\xs[i]<256:=q _ (List.getElem_mem h)
theorem Bytes.flat {α:Type} (f:α->List Int) (l:List α) (h:∀x∈l,Bytes (f x)):Bytes (l.flatMap f):=fun y q=>by
 obtain⟨x,z,q⟩:=List.mem_flatMap.1 q;exact h x z y q
def val:List Int->Int
 | []=>0
 | b::r=>b+256*val r
theorem Zfe {xs:List Int} (h:Bytes xs):0<=val xs/\val xs<256 ^ xs.length:=by
 induction xs with
 | nil=>simp[val]
 | cons x xs z=>
  have A:=z fun y q=>h y (List.mem_cons_of_mem _ q);have C:=h x List.mem_cons_self;simp only[val,List.length_cons];rw[Int.pow_succ];omega
theorem val_append (xs:List Int) (ys:List Int):val (xs++ys)=val xs+256 ^ xs.length*val ys:=by
 induction xs with
 | nil=>simp[val]
 | cons x xs q=>
  simp only[List.cons_append,val,q,List.length_cons];rw[Int.pow_succ,Int.mul_add,<- Int.mul_assoc,Int.mul_comm 256 (256 ^ xs.length),Int.add_assoc]
theorem Zz6 {n:Nat} (h:n<=8):(256:Int) ^ n<=18446744073709551616:=
 (by decide:∀n:Fin 9,(256:Int) ^ n.1<=18446744073709551616) ⟨n,by omega⟩
theorem Z3U {xs:List Int} (h:Bytes xs) (z:xs.length<=8):0<=val xs/\val xs<18446744073709551616:=by
 have q:=Zfe h;exact⟨q.1,Int.lt_of_lt_of_le q.2 (Zz6 z)⟩
def num:Nat->Int->List Int
 | 0,_=>[]
 | n+1,v=>(v % 256)::num n (v / 256)
theorem Es (n:Nat) (v:Int):(num n v).length=n:=by
 induction n generalizing v with
 | zero=>rfl
 | succ n q=>simp[num,q]
theorem JU (n:Nat) (v:Int):Bytes (num n v):=by
 induction n generalizing v with
 | zero=>exact Bytes.nil
 | succ n q=>exact Bytes.cons (by omega) (q _)
theorem Z2Z (n:Nat) (v:Int):num (n+1) v=num n v++[v / 256 ^ n % 256]:=by
 induction n generalizing v with
 | zero=>simp[num]
 | succ n q=>
  have e:num (n+2) v=(v % 256)::num (n+1) (v / 256):=rfl;rw[e,q];simp only[num,List.cons_append];rw[Int.pow_succ,Int.mul_comm,<- Int.ediv_ediv_of_nonneg (by decide)]
theorem ZBm (n m:Nat) (v:Int) (h:n<=m):(num m v).take n=num n v:=by
 induction n generalizing m v with
 | zero=>simp[num]
 | succ n q=>
  obtain⟨m,rfl⟩:∃k,m=k+1:=⟨m - 1,by omega⟩;simp[num,q m _ (by omega)]
theorem via {α:Type} {a b:α} (m:α) (q:a=m) (z:b=m):a=b:=q.trans z.symm
theorem and32 (x:Int) (h:0<=x) (q : x<18446744073709551616):bits .and .u64 x (IntKind.wrap .u64 ((IntKind.wrap .u64 ((1:Int)*2 ^ (min (Int.toNat 32) (IntKind.bits .u64)))) - (1:Int)))=x % 4294967296:=by
 have:=bits_mask .u64 64 (by decide) wraps_u64 32 (by decide) x h q;exact this
theorem Z7v (x:Int) (h:0<=x) (q : x<18446744073709551616):QT x 32=some (x % 4294967296):=(AZ _ _).trans (by
 simp only[Z0n,DN];rw[show decide ((32:Int)<=0)=false from rfl,show decide ((32:Int)>=64)=false from rfl,show decide ((0:Int)<=32)=true from rfl];simp only[cond_false,cond_true];rw[and32 x h q])
theorem or0 (x:Int) (h:0<=x) (q : x<18446744073709551616):bits .or .u64 x 0=x:=by
 obtain⟨a,rfl⟩:=Int.eq_ofNat_of_zero_le h;have:=(bits_nat .u64 64 (by decide) wraps_u64 a 0 (show a<18446744073709551616 by omega) (by decide)).2;rw[Nat.or_zero]at this;exact this
def rotl (k:Int) (p q:Nat):Int:=bits .or .u64 (IntKind.wrap .u64 (k*2 ^ p)) (Int.fdiv k (2 ^ q))
theorem rotl0 (k:Int) (h:0<=k) (q : k<18446744073709551616):rotl k 0 64=k:=by
 unfold rotl;rw[Int.pow_zero,Int.mul_one,wu64 h q,Int.fdiv_eq_ediv_of_nonneg _ (by decide),show (2:Int) ^ 64=18446744073709551616 from rfl,Int.ediv_eq_zero_of_lt h q,or0 k h q]
theorem ZEP (k:Int) (h:0<=k) (F : k<18446744073709551616) (i:Int) (O:0<=i) (Q:i<8) :
  ∃lo,(0<=lo/\lo<4294967296)/\Uw k i=some lo/\∃x,TZ k (Int.tmod (AP ((11:Int)*(Int.tmod i (64:Int)))) (64:Int))=some x/\∃y,QT x 32=some y/\IntKind.wrap .u32 y=lo:=by
 have key:∀x,0<=x->x<18446744073709551616->AV dM (.b1 x)=some (x % 4294967296):=fun x C A =>(AZ _ _).trans (by
  simp only[dM,DN];rw[Int.tmod_eq_emod_of_nonneg C,J9 (by omega) (by omega)])
 have M:i=0\/i=1\/i=2\/i=3\/i=4\/i=5\/i=6\/i=7:=by omega
 have low:∀x,0<=x->x<18446744073709551616->∃y,QT x 32=some y/\IntKind.wrap .u32 y=x % 4294967296:=fun x C A =>⟨_,Z7v x C A,J9 (by omega) (by omega)⟩;have z:∀p q:Nat,∀n:Int,TZ k n=some (rotl k p q)->Uw k i=AV dM (.b1 (rotl k p q))->Int.tmod (AP ((11:Int)*(Int.tmod i (64:Int)))) (64:Int)=n ->
   ∃lo,(0<=lo/\lo<4294967296)/\Uw k i=some lo/\∃x,TZ k (Int.tmod (AP ((11:Int)*(Int.tmod i (64:Int)))) (64:Int))=some x/\∃y,QT x 32=some y/\IntKind.wrap .u32 y=lo:=fun p q n G I J=>by
  have hb:0<=rotl k p q/\rotl k p q<18446744073709551616:=b64 _ _ _;obtain⟨y,N,D⟩:=low _ hb.1 hb.2;exact⟨rotl k p q % 4294967296,by omega,by rw[I,key _ hb.1 hb.2],_,by rw[J];exact G,y,N,D⟩
 rcases M with rfl|rfl|rfl|rfl|rfl|rfl|rfl|rfl
 ·refine z 0 64 0 ((AZ _ _).trans rfl) ?_ rfl;rw[rotl0 k h F];exact(AZ _ _).trans rfl
 ·exact z 11 53 11 ((AZ _ _).trans rfl) ((AZ _ _).trans rfl) rfl
 ·exact z 22 42 22 ((AZ _ _).trans rfl) ((AZ _ _).trans rfl) rfl
 ·exact z 33 31 33 ((AZ _ _).trans rfl) ((AZ _ _).trans rfl) rfl
 ·exact z 44 20 44 ((AZ _ _).trans rfl) ((AZ _ _).trans rfl) rfl
 ·exact z 55 9 55 ((AZ _ _).trans rfl) ((AZ _ _).trans rfl) rfl
 ·exact z 2 62 2 ((AZ _ _).trans rfl) ((AZ _ _).trans rfl) rfl
 ·exact z 13 51 13 ((AZ _ _).trans rfl) ((AZ _ _).trans rfl) rfl
theorem turn7 (x:Int):QE x 7=OC x 7:=by
 rw[show QE x 7=_ from AZ _ _,show OC x 7=_ from AZ _ _];rfl
theorem ZF6 (x:Int):QE x 16=OC x 16:=by
 rw[show QE x 16=_ from AZ _ _,show OC x 16=_ from AZ _ _];rfl
theorem ZD4 (k:Int) (h:0<=k) (z : k<18446744073709551616) (i:Int) (A:0<=i) (I:i<8) (a:Int):oL k i a=XY k i a:=by
 obtain⟨q,J,C,x,D,y,F,G⟩:=ZEP k h z i A I;refine via ((OC (IntKind.wrap .u32 (a+q)) 7).bind fun M=>(OC q 16).bind fun N=>some (bits .xor .u32 (IntKind.wrap .u32 (M*(2654435761:Int))) N)) ((AZ _ _).trans ?_) ((AZ _ _).trans ?_)
 ·simp only[Z1f,DN,C,Option.bind_some];rfl
 ·simp only[Z00,DN,D,F,G,Option.bind_some,turn7,ZF6];rfl
theorem ZDZ (k:Int) (h:0<=k) (J : k<18446744073709551616):∀(n:Nat) (i l r:Int),0<=i->8 - i<=n->0<=l->l<4294967296->0<=r->r<4294967296->AV SC (.b1 k l r i)=AV I4 (.b1 k i ⟨l,r⟩):=by
 have D:∀i l r:Int,¬i<8->0<=l->l<4294967296->0<=r->r<4294967296->AV SC (.b1 k l r i)=AV I4 (.b1 k i ⟨l,r⟩):=fun i l r A F z C q =>by
  refine via (some (l*4294967296+r)) ((AZ _ _).trans ?_) ((AZ _ _).trans ?_)
  ·simp only[SC,DN];rw[decide_eq_false A,wu64 (n:=l) (by omega) (by omega),wu64 (n:=r) (by omega) (by omega),wu64 (n:=l*4294967296) (by omega) (by omega),wu64 (by omega) (by omega)];rfl
  ·simp only[I4,DN];rw[decide_eq_false A];simp only[cond_false];rw[show WV ⟨l,r⟩=some (l*4294967296+r) from(AZ _ _).trans (by
    simp only[jU,DN];rw[wu64 (n:=l) (by omega) (by omega),wu64 (n:=r) (by omega) (by omega),show (2:Int) ^ (32:Nat)=4294967296 from rfl,wu64 (n:=l*4294967296) (by omega) (by omega)];rw[bits_join .u64 64 (by decide) wraps_u64 32 (l*4294967296) r (by omega) (by omega) (by omega) C (by omega) (by omega)])]
   rfl
 intro n;induction n with
 | zero=>intro i l r G M F z C q;exact D i l r (by omega) F z C q
 | succ n N=>
  intro i l r G M F z C q
  by_cases A:i<8
  ·refine via ((XY k i r).bind fun x=>AV I4 (.b1 k (AP (i+1)) ⟨r,bits .xor .u32 l x⟩)) ((AZ _ _).trans ?_) ((AZ _ _).trans ?_)
   ·simp only[SC,DN];rw[decide_eq_true A,ZD4 k h J i G A];simp only[cond_true];congr 1;funext x;have I:=b32 .xor l x;rw[Fq (by omega) (by omega)];exact N (i+1) r (bits .xor .u32 l x) (by omega) (by omega) C q I.1 I.2
   ·simp only[I4,DN];rw[decide_eq_true A];rfl
  ·exact D i l r A F z C q
theorem e_Mix (k x:Int) (h:0<=k) (A : k<18446744073709551616) (q:0<=x) (z : x<18446744073709551616):Q4 k x=KJ k x:=by
 refine via (AV I4 (.b1 k 0 ⟨x / 4294967296,x % 4294967296⟩)) ((AZ _ _).trans ?_) ((AZ _ _).trans ?_)
 ·simp only[SC,DN];rw[Int.tdiv_eq_ediv_of_nonneg q,Int.tmod_eq_emod_of_nonneg q,wu64 (n:=x / 4294967296) (by omega) (by omega),J9 (n:=x / 4294967296) (by omega) (by omega),J9 (n:=x % 4294967296) (by omega) (by omega)];exact ZDZ k h A 8 0 _ _ (by omega) (by omega) (by omega) (by omega) (by omega) (by omega)
 ·simp only[I4,DN];rw[show mJ x=some ⟨x / 4294967296,x % 4294967296⟩ from(AZ _ _).trans (by
   simp only[ZW,DN,Z7v x q z,Option.bind_some];rw[Int.fdiv_eq_ediv_of_nonneg _ (by decide),show (2:Int) ^ (32:Nat)=4294967296 from rfl,J9 (n:=x / 4294967296) (by omega) (by omega),J9 (n:=x % 4294967296) (by omega) (by omega)])]
  rfl
noncomputable def Mc (k x:Int):Int:=(KJ k x).getD 0
theorem V4 (k x:Int):KJ k x=some (Mc k x):=by
 obtain⟨r,q⟩:=Zfo k x;rw[Mc,q];rfl
theorem ZAh (k:Int):∀(n:Nat) (i:Int) (h:JA) (r:Int),0<=i->8 - i<=n->AV I4 (.b1 k i h)=some r->0<=r/\r<18446744073709551616:=by
 have z:∀(i:Int) (h:JA) (r:Int),¬i<8->AV I4 (.b1 k i h)=some r->0<=r/\r<18446744073709551616:=fun i h r A q=>by
  rw[AZ]at q;simp only[I4,DN]at q;rw[decide_eq_false A,show WV h=_ from AZ _ _]at q;simp only[jU,DN,cond_false,Option.bind_some,Option.some.injEq]at q;rw[<- q];exact b64 _ _ _
 intro n;induction n with
 | zero=>intro i h r C D q;exact z i h r (by omega) q
 | succ n G=>
  intro i h r C D q
  by_cases A:i<8
  ·rw[AZ]at q;simp only[I4,DN]at q;rw[decide_eq_true A,Fq (by omega) (by omega)]at q;simp only[cond_true]at q;obtain⟨x,_,F⟩:=Option.bind_eq_some_iff.1 q;exact G _ _ _ (by omega) (by omega) F
  ·exact z i h r A q
theorem rY (k x:Int):0<=Mc k x/\Mc k x<18446744073709551616:=by
 have h:=V4 k x;rw[show KJ k x=_ from AZ _ _]at h;simp only[I4,DN]at h;obtain⟨y,_,q⟩:=Option.bind_eq_some_iff.1 h;exact ZAh k 8 0 y _ (by omega) (by omega) q
def Eh (k:Int):Prop:=0<=k/\k<18446744073709551616
theorem qH (k x:Int) (h:Eh k) (q:Eh x):Q4 k x=some (Mc k x):=(e_Mix k x h.1 h.2 q.1 q.2).trans (V4 k x)
theorem Z34 {R α C:Type} (F:List C->Int->Option R) (xs:List α) (f:α->List C) (q:List C->Option R) (B:Nat)
  (z:∀(i:Nat) s (h:i<xs.length),s.length+(f xs[i]).length<=B->F s i=F (s++f xs[i]) ((i+1:Nat):Int))
  (A:∀s,F s (xs.length:Int)=q s) (s:List C) (D:s.length+(xs.flatMap f).length<=B):F s 0=q (s++xs.flatMap f):=by
 have key:=Z2s F xs (fun s x=>s++f x) q (fun i s=>s.length+((xs.drop i).flatMap f).length<=B)
  (fun i s h G=>by
   simp only[List.drop_eq_getElem_cons h,List.flatMap_cons,List.length_append]at G;exact⟨z i s h (by omega),by simp only[List.length_append];omega⟩)
  (fun s _=>A s) s (by simpa using D)
 rw[key.1,ZxS]
theorem gK (ls:List (List Int)) (h:ls.flatten.length<=100000) (A:ls.length<=100000):Rj ls=some ls.flatten:=(AZ _ _).trans (by
 simp only[XW,DN,SL,SM];have:=Z34 (fun s i=>AV XW (.b1 s ls ls.length i)) ls id some 100000 (fun i s q z=>(AZ _ _).trans (by
   simp only[id]at z;simp(disch:=omega) only[XW,q,id,DN,SL,SM]))
  (fun s=>(AZ _ _).trans (by simp only[XW,Int.lt_irrefl,DN,SL,SM])) [] (by simpa[List.flatMap_id]using h)
 simpa[List.flatMap_id]using this)
theorem ZCT (n:Int) (h:1<=n) (q : n<=8):ZT n=some true:=(AZ _ _).trans (by
 simp only[Z7y,DN,decide_eq_true (show n>=1 from h),decide_eq_true q,cond_true])
theorem vT (j:Nat):(2:Int) ^ (8*j)=256 ^ j:=by rw[Int.pow_mul];rfl
theorem sh8 (v:Int) (j:Nat) (q:j<=8):Int.fdiv v (2 ^ (min (Int.toNat (AP ((8:Int)*(j:Int)))) (IntKind.bits .u64)))=v / 256 ^ j:=by
 rw[Fq (by omega) (by omega),show Int.toNat (8*(j:Int))=8*j by omega,show min (8*j) (IntKind.bits .u64)=8*j from Nat.min_eq_left (by show 8*j<=64;omega),vT,Int.fdiv_eq_ediv_of_nonneg _ (Int.le_of_lt (by exact_mod_cast Nat.pow_pos (by decide)))]
theorem put3 (fs:List Cc) (s:List Int) (n:Int) (i m:Nat) (x:Cc) (hm:m<=8) (G:s.length<=1000) (F:i<=1000):∀(d j:Nat),j+d=m ->
  AV LH (.b3 (s++num j x.Value) fs n i m j x)=AV LH (.b1 (s++num m x.Value) fs n ((i+1:Nat):Int)):=by
 intro d;induction d with
 | zero=>
  intro j A;obtain rfl:j=m:=by omega
  refine(AZ _ _).trans ?_;simp(disch:=omega) only[LH,Int.lt_irrefl,DN,SL,SM]
 | succ d D=>
  intro j A;rw[<- D (j+1) (by omega),Z2Z,<- List.append_assoc];refine(AZ _ _).trans ?_;have q:j<m:=by omega
  have z:decide (0<=AP (8*(j:Int)))=true:=decide_eq_true (by rw[Fq (by omega) (by omega)];omega);have C:=Es j x.Value;simp(disch:=omega) only[LH,q,z,sh8,IntKind.wrap_u8,C,DN,SL,SM]
def Hw (f:Cc):List Int:=num f.Size.toNat f.Value
theorem Z4y (fs:List Cc) (F:∀f∈fs,1<=f.Size/\f.Size<=8/\0<=f.Value/\f.Value<256 ^ f.Size.toNat) (G:(fs.flatMap Hw).length<=1000) (J:fs.length<=1000) :
  QS fs=some (fs.flatMap Hw,0):=(AZ _ _).trans (by
 simp only[LH,DN,SL,SM];have:=Z34 (fun s i=>AV LH (.b1 s fs fs.length i)) fs Hw (fun s=>some (s,0)) 1000 (fun i s z M=>(AZ _ _).trans (by
   obtain⟨C,D,A,I⟩:=F fs[i] (List.getElem_mem z);simp(disch:=omega) only[LH,z,ZCT _ C D,DN,SL,SM];have key:AV LH (.b2 s fs fs.length i fs[i])=AV LH (.b1 (s++Hw fs[i]) fs fs.length ((i+1:Nat):Int)):=by
    refine(AZ _ _).trans ?_;simp(disch:=omega) only[LH,DN,SL,SM];have:=put3 fs s fs.length i fs[i].Size.toNat fs[i] (by omega) (by omega) (by omega) fs[i].Size.toNat 0 (by omega);simp only[num,List.append_nil]at this;rw[show ((fs[i].Size.toNat:Nat):Int)=fs[i].Size by omega]at this;exact this
   by_cases q:fs[i].Size<8
   ·have e:=sh8 fs[i].Value fs[i].Size.toNat (by omega);rw[show ((fs[i].Size.toNat:Nat):Int)=fs[i].Size by omega,Int.ediv_eq_zero_of_lt A I]at e;rw[e,decide_eq_true q,show decide (0<=AP (8*fs[i].Size))=true from decide_eq_true (by rw[Fq (by omega) (by omega)];omega)];exact key
   ·rw[decide_eq_false q];exact key))
  (fun s=>(AZ _ _).trans (by simp only[LH,Int.lt_irrefl,DN,SL,SM])) [] (by simpa using G)
 simpa using this)
theorem ZtL {α:Type} (f:α->List Int) (c:Nat) (xs:List α) (h:∀x∈xs,(f x).length=c):(xs.flatMap f).length=c*xs.length:=by
 induction xs with
 | nil=>simp
 | cons x xs z=>
  rw[List.flatMap_cons,List.length_append,h x List.mem_cons_self,z fun y q=>h y (List.mem_cons_of_mem _ q),List.length_cons,Nat.mul_succ];omega
theorem ZCV (xs:List Int) (z:∀x∈xs,Eh x) (F:xs.length<=100):U8 xs=some (xs.flatMap (num 8)):=(AZ _ _).trans (by
 simp only[YX,DN,SL,SM];have:=Z34 (fun s i=>AV YX (.b1 s xs xs.length i)) xs (fun x=>[(⟨8,x⟩:Cc)]) (fun s=>(QS s).bind fun r=>some r.1) 1000 (fun i s C D=>(AZ _ _).trans (by
   simp only[List.length_cons,List.length_nil]at D;simp(disch:=omega) only[YX,C,DN,SL,SM]))
  (fun s=>(AZ _ _).trans (by simp only[YX,Int.lt_irrefl,DN,SL,SM];rfl)) [] (by
   rw[show (xs.flatMap fun x=>[(⟨8,x⟩:Cc)])=xs.map fun x=>(⟨8,x⟩:Cc) from(List.map_eq_flatMap).symm];simp;omega)
 refine this.trans ?_;rw[List.nil_append,show (xs.flatMap fun x=>[(⟨8,x⟩:Cc)])=xs.map fun x=>(⟨8,x⟩:Cc) from(List.map_eq_flatMap).symm];have e:(xs.map fun x=>(⟨8,x⟩:Cc)).flatMap Hw=xs.flatMap (num 8):=by rw[List.flatMap_map];rfl
 rw[Z4y _ (fun f A=>by
  obtain⟨x,q,rfl⟩:=List.mem_map.1 A;exact⟨show (1:Int)<=8 by decide,show (8:Int)<=8 by decide,(z x q).1,(z x q).2⟩) (by rw[e,ZtL _ 8 _ fun x _=>Es 8 x];omega) (by simp;omega),e]
 rfl)
theorem ZE6 (m:Nat) (hm:m<=100) (v:Int) (h:Eh v):∀(d j:Nat),j+d=m->AV Um (.b1 m (v / 256 ^ j) (num j v) j)=some ⟨num m v⟩:=by
 intro d;induction d with
 | zero=>
  intro j A;obtain rfl:j=m:=by omega
  refine(AZ _ _).trans ?_;simp(disch:=omega) only[Um,Int.lt_irrefl,DN,SL,SM]
 | succ d D=>
  intro j A;have p:(0:Int)<256 ^ j:=by exact_mod_cast Nat.pow_pos (by decide)
  have q:0<=v / 256 ^ j:=Int.ediv_nonneg h.1 (Int.le_of_lt p);have F : v / 256 ^ j<18446744073709551616:=Int.lt_of_le_of_lt (Int.ediv_le_self _ h.1) h.2;have z:j<m:=by omega
  have C:=Es j v;rw[<- D (j+1) (by omega),Z2Z];refine(AZ _ _).trans ?_;simp(disch:=omega) only[Um,z,C,Int.tmod_eq_emod_of_nonneg q,Int.tdiv_eq_ediv_of_nonneg q,DN,SL,SM];rw[Oq (by omega) (by omega),wu64 (by omega) (by omega),Int.ediv_ediv_of_nonneg (by omega),Int.pow_succ]
theorem uV (m:Nat) (hm:m<=100) (v:Int) (h:Eh v):Lr m v=some ⟨num m v⟩:=(AZ _ _).trans (by
 simp only[Um,DN,SL,SM];have:=ZE6 m hm v h m 0 (by omega);simpa[num]using this)
theorem ZzX (xs:List Int) (hb:Bytes xs) (F:xs.length<=8):∀n:Nat,n<=xs.length->AV Ue (.b1 xs (val (xs.drop n)) ((n:Int) - 1))=some (val xs):=by
 intro n;induction n with
 | zero=>
  intro _;refine(AZ _ _).trans ?_;simp only[Ue,DN];rw[show decide (((0:Nat):Int) - 1>=0)=false from rfl];simp
 | succ n q=>
  intro G;have D:val (xs.drop n)=xs[n]+256*val (xs.drop (n+1)):=by rw[List.drop_eq_getElem_cons (show n<xs.length by omega)];rfl
  have z:=Z3U (hb.drop n) (by rw[List.length_drop];omega);have A:=Z3U (hb.drop (n+1)) (by rw[List.length_drop];omega);have C:=hb.get n (by omega);refine(AZ _ _).trans ?_;simp only[Ue,DN];rw[show ((n+1:Nat):Int) - 1=(n:Int) by omega,show decide ((n:Int)>=0)=true from decide_eq_true (by omega),show decide (0<=(n:Int)/\(n:Int)<(xs.length:Int))=true from decide_eq_true (by omega)];simp only[cond_true,Int.toNat_natCast,List.getElem?_eq_getElem (show n<xs.length by omega),Option.bind_some];rw[wu64 (n:=val (xs.drop (n+1))*256) (by omega) (by omega),wu64 (n:=xs[n]) (by omega) (by omega),wu64 (by omega) (by omega),Fq (by omega) (by omega),show val (xs.drop (n+1))*256+xs[n]=val (xs.drop n) by omega];exact q (by omega)
theorem ZC3 (xs:List Int) (hb:Bytes xs) (q:xs.length<=8):nR xs=some (val xs):=(AZ _ _).trans (by
 simp only[Ue,DN];have:=ZzX xs hb q xs.length (Nat.le_refl _);rw[List.drop_of_length_le (Nat.le_refl _)]at this;rw[Fq (by omega) (by omega)];exact this)
def vM (xs:List Int) (g:Nat):Int:=val ((xs.drop (8*g)).take 8)
theorem ZAo (ys:List Int) (hb:Bytes ys) (F:ys.length<=8):∀m:Nat,m<=ys.length->J7 ys m=val (ys.take m):=by
 intro m;induction m with
 | zero=>intro _;simp[J7,val]
 | succ m D=>
  intro hm;have C:=hb.get m (by omega);have z:=Zfe (hb.take m);have A:=Z3U (hb.take (m+1)) (by rw[List.length_take];omega);have e:val (ys.take (m+1))=val (ys.take m)+256 ^ m*ys[m]:=by
   rw[List.take_add_one,List.getElem?_eq_getElem (show m<ys.length by omega),val_append];simp[val,Nat.min_eq_left (show m<=ys.length by omega)]
  rw[List.length_take,Nat.min_eq_left (by omega)]at z;rw[e]at A;have q:0<=256 ^ m*ys[m]:=Int.mul_nonneg (Int.le_of_lt (by exact_mod_cast Nat.pow_pos (by decide))) C.1;rw[e,J7,D (by omega),List.getElem?_eq_getElem (show m<ys.length by omega),Option.getD_some,vT,Int.mul_comm ys[m],wu64 q (by omega)];refine Zfz .u64 64 (by decide) wraps_u64 (8*m) (by omega) _ _ q ?_ (by show _<(18446744073709551616:Int);omega) z.1 ?_
  ·rw[vT];exact Int.mul_emod_right _ _
  ·rw[vT];exact z.2
theorem ZyM (xs:List Int) (hb:Bytes xs) (g:Nat):JK xs g=vM xs g:=by
 unfold JK vM;rw[ZAo _ ((hb.drop _).take _) (by rw[List.length_take];omega) _ (Nat.le_refl _),List.take_of_length_le (Nat.le_refl _)]
noncomputable def TQ (k:Int) (xs:List Int) (m g:Nat) (s:Int):Int:=(List.range' g m).foldl (fun s g=>Mc k (bits .xor .u64 s (vM xs g))) s
noncomputable def TM (k:Int) (xs:List Int):Int:=TQ k xs (gN xs) 0 (Mc k xs.length)
theorem ZCY (k:Int) (xs:List Int):∀m g s,Eh s->Eh (TQ k xs m g s):=by
 intro m;induction m with
 | zero=>intro g s h;exact h
 | succ m q=>
  intro g s h;rw[TQ,List.range'_succ];exact q (g+1) _ (rY _ _)
theorem Zex (k:Int) (xs:List Int):Eh (TM k xs):=ZCY _ _ _ _ _ (rY _ _)
theorem v_Tag (k:Int) (xs:List Int) (hb:Bytes xs) (z:xs.length<=100000):qL k xs=some (TM k xs):=by
 have key:∀(l:List Nat) (s:Int),l.foldlM (fun s g=>KJ k (bits .xor .u64 s (JK xs g))) s=some (l.foldl (fun s g=>Mc k (bits .xor .u64 s (vM xs g))) s):=by
  intro l;induction l with
  | nil=>intro s;rfl
  | cons g l q=>
   intro s;rw[List.foldlM_cons,V4,ZyM xs hb];exact q _
 unfold qL Vw TM TQ;rw[if_pos (by omega),V4,Option.bind_some,key,List.range_eq_range']
theorem Zvk (k:Int) (D:Eh k) (xs:List Int) (hb:Bytes xs) (I:xs.length<=100000):∀(m g:Nat) (s:Int),m+g=gN xs->AV Uy (.b1 k xs s ((8*g:Nat):Int))=some (TQ k xs m g s):=by
 intro m;induction m with
 | zero=>
  intro g s q;unfold gN at q;refine(AZ _ _).trans ?_;simp(disch:=omega) only[Uy,DN,SL,SM];rfl
 | succ m G=>
  intro g s q;have C :=q;unfold gN at q;have F:8*g<xs.length:=by omega
  refine(AZ _ _).trans ?_;have z:(if (↑xs.length:Int)<(AP (((8*g:Nat):Int)+8)) then (↑xs.length:Int) else (AP (((8*g:Nat):Int)+8)))=((min (8*g+8) xs.length:Nat):Int):=by
   rw[Fq (by omega) (by omega)];split<;>omega
  have A:(xs.drop (8*g)).take (min (8*g+8) xs.length - 8*g)=(xs.drop (8*g)).take 8:=by
   by_cases h:8*g+8<=xs.length
   ·rw[Nat.min_eq_left h,show 8*g+8 - 8*g=8 by omega]
   ·rw[List.take_of_length_le (by rw[List.length_drop];omega),List.take_of_length_le (by rw[List.length_drop];omega)]
  simp only[Uy,DN,z];rw[decide_eq_true (show ((8*g:Nat):Int)<(xs.length:Int) by omega),decide_eq_true (show (0:Int)<=((min (8*g+8) xs.length:Nat):Int)/\((min (8*g+8) xs.length:Nat):Int)<=(xs.length:Int) by omega)];simp only[Int.toNat_natCast];rw[decide_eq_true (show (0:Int)<=((8*g:Nat):Int)/\((8*g:Nat):Int)<=((min (8*g+8) xs.length:Nat):Int) by omega),A,ZC3 _ ((hb.drop _).take _) (by rw[List.length_take];omega)];simp only[cond_true,Option.bind_some];rw[qH k _ D (b64 _ _ _),Option.bind_some,Fq (by omega) (by omega),show ((8*g:Nat):Int)+8=((8*(g+1):Nat):Int) by omega,G (g+1) _ (by omega)];rw[TQ,TQ,List.range'_succ];rfl
theorem Zye (k:Int) (q:Eh k) (xs:List Int) (hb:Bytes xs) (z:xs.length<=100000):dQ k xs=some (TM k xs):=(AZ _ _).trans (by
 simp only[Uy,DN];rw[wu64 (by omega) (by omega),qH k _ q ⟨by omega,by omega⟩,Option.bind_some];exact Zvk k q xs hb z (gN xs) 0 _ (by omega))
def Kz (n z q:Int):Int:=bif decide (n<z) then 5 else bif decide (n>q) then 5 else 0
theorem Q8 (n z q:Int):QJ n z q=some (Kz n z q):=(AZ _ _).trans (by
 simp only[Z6T,DN];unfold Kz;cases decide (n<z)<;>cases decide (n>q)<;>rfl)
theorem Zdp (u:DL):kY u=some ⟨[IntKind.wrap .u64 u.ET,IntKind.wrap .u64 u.ES,IntKind.wrap .u64 u.Dl,IntKind.wrap .u64 u.Dx,IntKind.wrap .u64 u.Ea]⟩:=(AZ _ _).trans rfl
theorem Zck (a b c d e:Int) (r:List Int):kT (a::b::c::d::e::r)=some ⟨AP a,AP b,AP c,AP d,AP e⟩:=(AZ _ _).trans (by
 have h:∀j:Int,0<=j->j<5->decide (0<=j/\j<(((a::b::c::d::e::r).length:Nat):Int))=true:=fun j q z=>decide_eq_true ⟨q,by simp only[List.length_cons];omega⟩;simp only[Z6F,DN,h 0 (by decide) (by decide),h 1 (by decide) (by decide),h 2 (by decide) (by decide),h 3 (by decide) (by decide),h 4 (by decide) (by decide),cond_true];rfl)
theorem JB (c:AL):Np c=some []:=(AZ _ _).trans (rfl)
theorem Jh (c:AL):Tj c=some [c.CW]:=(AZ _ _).trans (rfl)
theorem Ji (c:AL):Tv c=some [IntKind.wrap .u64 c.Length]:=(AZ _ _).trans (rfl)
theorem KN (c:AL):kR c=some [IntKind.wrap .u64 c.BI.ET,IntKind.wrap .u64 c.BI.ES,IntKind.wrap .u64 c.BI.Dl,IntKind.wrap .u64 c.BI.Dx,IntKind.wrap .u64 c.BI.Ea,IntKind.wrap .u64 c.DF]:=(AZ _ _).trans (by
 simp only[Z6s,DN,Zdp,Option.bind_some];rfl)
theorem KL (c:AL):kU c=some [c.Map,IntKind.wrap .u64 c.DF]:=(AZ _ _).trans (rfl)
theorem KQ (c:AL):kV c=some [IntKind.wrap .u64 c.BI.ET,IntKind.wrap .u64 c.BI.ES,IntKind.wrap .u64 c.BI.Dl,IntKind.wrap .u64 c.BI.Dx,IntKind.wrap .u64 c.BI.Ea]:=(AZ _ _).trans (by
 simp only[Z6u,DN,Zdp,Option.bind_some];rfl)
theorem KI (c:AL):kD c=some [IntKind.wrap .u64 c.Bd]:=(AZ _ _).trans (rfl)
theorem KC (c:AL):kC c=some [c.Bq,c.Mark]:=(AZ _ _).trans (rfl)
theorem KH (c:AL):jV c=some [c.Bq]:=(AZ _ _).trans (rfl)
theorem KF (c:AL):jW c=some [IntKind.wrap .u64 c.DT]:=(AZ _ _).trans (rfl)
theorem KG (c:AL):jY c=some [IntKind.wrap .u64 c.Version]:=(AZ _ _).trans (rfl)
theorem KD (c:AL):kM c=some [IntKind.wrap .u64 c.Bd,IntKind.wrap .u64 c.DT]:=(AZ _ _).trans (rfl)
theorem Lc (l:List Int) (u:AL):UF l u=some ⟨u⟩:=(AZ _ _).trans rfl
theorem LG (a:Int) (u:AL):jL [a] u=some ⟨{ u with CW:=a }⟩:=(AZ _ _).trans (rfl)
theorem LQ (a:Int) (u:AL):jZ [a] u=some ⟨{ u with Length:=AP a }⟩:=(AZ _ _).trans (rfl)
theorem Ll (a b c d e f:Int) (u:AL):yU [a,b,c,d,e,f] u=some ⟨{ u with BI:=⟨AP a,AP b,AP c,AP d,AP e⟩,DF:=IntKind.wrap .u16 f }⟩:=(AZ _ _).trans (by
 simp only[Z6E,DN,Zck,Option.bind_some]
 all_goals rfl)
theorem Lj (a b:Int) (u:AL):zL [a,b] u=some ⟨{ u with Map:=a,DF:=IntKind.wrap .u16 b }⟩:=(AZ _ _).trans (rfl)
theorem La (a b c d e:Int) (u:AL):zJ [a,b,c,d,e] u=some ⟨{ u with BI:=⟨AP a,AP b,AP c,AP d,AP e⟩ }⟩:=(AZ _ _).trans (by
 simp only[Z6z,DN,Zck,Option.bind_some]
 all_goals rfl)
theorem LY (a:Int) (u:AL):xW [a] u=some ⟨{ u with Bd:=AP a }⟩:=(AZ _ _).trans (rfl)
theorem LM (a b:Int) (u:AL):yF [a,b] u=some ⟨{ u with Bq:=a,Mark:=b }⟩:=(AZ _ _).trans (rfl)
theorem LX (a:Int) (u:AL):yC [a] u=some ⟨{ u with Bq:=a }⟩:=(AZ _ _).trans (rfl)
theorem LU (a:Int) (u:AL):wZ [a] u=some ⟨{ u with DT:=AP a }⟩:=(AZ _ _).trans (rfl)
theorem LW (a:Int) (u:AL):yI [a] u=some ⟨{ u with Version:=AP a }⟩:=(AZ _ _).trans (rfl)
theorem LJ (a b:Int) (u:AL):yG [a,b] u=some ⟨{ u with Bd:=AP a,DT:=AP b }⟩:=(AZ _ _).trans (rfl)
theorem MC (c:AL):Nq c=some (0):=(AZ _ _).trans (by
 simp only[Z7I,DN,Q8,QF,Option.bind_some])
theorem LK (c:AL):kF c=some (Kz c.Length 27 251):=(AZ _ _).trans (by
 simp only[Z60,DN,Q8,QF,Option.bind_some])
theorem Lp (c:AL):yT c=some (I7 c.BI):=(AZ _ _).trans (by
 simp only[Z6t,DN,Q8,QF,Option.bind_some])
theorem Zvc (c:AL) (h:0<=c.Map/\c.Map<18446744073709551616):zG c=some (Ik c.Map):=(AZ _ _).trans (by
 have:=Zlk c.Map.toNat (by omega);rw[Int.toNat_of_nonneg h.1]at this;simp only[Z6x,DN,this,Option.bind_some])
theorem Lh (c:AL):zM c=some (I7 c.BI):=(AZ _ _).trans (by
 simp only[Z6H,DN,Q8,QF,Option.bind_some])
theorem L8 (c:AL):yB c=some (Kz c.Bd 0 255):=(AZ _ _).trans (by
 simp only[Z6o,DN,Q8,QF,Option.bind_some])
theorem LP (c:AL):xG c=some (Kz c.DT 0 255):=(AZ _ _).trans (by
 simp only[Z61,DN,Q8,QF,Option.bind_some])
theorem L6 (c:AL):xH c=some (Kz c.Version 0 255):=(AZ _ _).trans (by
 simp only[Z67,DN,Q8,QF,Option.bind_some])
theorem LZ (c:AL):xQ c=some ((if Kz c.DT 0 255>Kz c.Bd 0 255 then Kz c.DT 0 255 else Kz c.Bd 0 255)):=(AZ _ _).trans (by
 simp only[Z6q,DN,Q8,QF,Option.bind_some])
theorem ww {x:Int} (h:0<=x) (q : x<9223372036854775808):AP (IntKind.wrap .u64 x)=x:=by rw[wu64 h (by omega),Fq (by omega) (by omega)]
theorem wi16 {x:Int} (h:R16 x):IntKind.wrap .u16 (IntKind.wrap .u64 x)=x:=by rw[wu64 h.1 (by have:=h.2;omega),wu16 h.1 h.2]
theorem ZfI {n z q:Int} (h:z<=n) (A : n<=q):Kz n z q=0:=by unfold Kz;rw[decide_eq_false (by omega),decide_eq_false (by omega)];rfl
theorem iV {n:Int} (h:R8 n):Kz n 0 255=0:=ZfI h.1 (by have:=h.2;omega)
theorem Lu (c:AL):Gn c c=true:=by simp[Gn]
theorem uX {u:DL} (h:I7 u=0):1<=u.ET/\u.ET<=8/\0<=u.ES/\u.ES<=3200/\6<=u.Dl/\u.Dl<=3200/\0<=u.Dx/\u.Dx<=499/\10<=u.Ea/\u.Ea<=3200:=by
 unfold I7 at h
 by_cases hb:(!(inB u.ET 1 8&&inB u.ES 0 3200&&inB u.Dl 6 3200&&inB u.Dx 0 499&&inB u.Ea 10 3200))=true
 ·rw[if_pos hb]at h;cases h
 ·simp[inB]at hb;omega
theorem ZEQ {m:Int} (h:Ik m=0):m<137438953472:=by
 unfold Ik at h
 by_cases hb:m>=137438953472
 ·rw[if_pos hb]at h;cases h
 ·omega
theorem Ih {c:AL} (h:CV c):Zv c=some 0:=by
 have z:Gz=some ():=rfl;refine(AZ _ _).trans ?_;cases h
 case upd u i q h2=>
  have hb:=uX q;simp only[KA,DN,z,Option.bind_some,Jh,LG,MC,KN,KI,LY,L8,KC,LM,KH,LX,KF,LU,LP,Ll,KG,LW,L6,KD,LJ,LZ,Lp,KL,Lj,KQ,La,Lh,Ji,LQ,LK,JB,Lc,ww (show 0<=u.ET by omega) (by omega),ww (show 0<=u.ES by omega) (by omega),ww (show 0<=u.Dl by omega) (by omega),ww (show 0<=u.Dx by omega) (by omega),ww (show 0<=u.Ea by omega) (by omega),wi16 h2,Lu,Int.reduceBEq,Int.reduceEq,beq_self_eq_true,Bool.and_self,Bool.not_true,cond_true,cond_false, *]
 case map m i q h2 h3=>
  simp only[KA,DN,z,Option.bind_some,Jh,LG,MC,KN,KI,LY,L8,KC,LM,KH,LX,KF,LU,LP,Ll,KG,LW,L6,KD,LJ,LZ,Lp,KL,Lj,KQ,La,Lh,Ji,LQ,LK,JB,Lc,wi16 h3,Zvc (⟨1,BR,m,i,0,0,0,0,0,0,0⟩:AL) q,Lu,Int.reduceBEq,Int.reduceEq,beq_self_eq_true,Bool.and_self,Bool.not_true,cond_true,cond_false, *]
 case term r q=>simp only[KA,DN,z,Option.bind_some,Jh,LG,MC,KN,KI,LY,L8,KC,LM,KH,LX,KF,LU,LP,Ll,KG,LW,L6,KD,LJ,LZ,Lp,KL,Lj,KQ,La,Lh,Ji,LQ,LK,JB,Lc,ww q.1 (Int.lt_trans q.2 (by decide)),iV q,Lu,Int.reduceBEq,Int.reduceEq,beq_self_eq_true,Bool.and_self,Bool.not_true,cond_true,cond_false, *]
 case enc s m q h2=>simp only[KA,DN,z,Option.bind_some,Jh,LG,MC,KN,KI,LY,L8,KC,LM,KH,LX,KF,LU,LP,Ll,KG,LW,L6,KD,LJ,LZ,Lp,KL,Lj,KQ,La,Lh,Ji,LQ,LK,JB,Lc,Lu,Int.reduceBEq,Int.reduceEq,beq_self_eq_true,Bool.and_self,Bool.not_true,cond_true,cond_false, *]
 case ans s q=>simp only[KA,DN,z,Option.bind_some,Jh,LG,MC,KN,KI,LY,L8,KC,LM,KH,LX,KF,LU,LP,Ll,KG,LW,L6,KD,LJ,LZ,Lp,KL,Lj,KQ,La,Lh,Ji,LQ,LK,JB,Lc,Lu,Int.reduceBEq,Int.reduceEq,beq_self_eq_true,Bool.and_self,Bool.not_true,cond_true,cond_false, *]
 case plain k q=>rcases q with rfl|rfl|rfl|rfl<;>simp only[KA,DN,z,Option.bind_some,Jh,LG,MC,KN,KI,LY,L8,KC,LM,KH,LX,KF,LU,LP,Ll,KG,LW,L6,KD,LJ,LZ,Lp,KL,Lj,KQ,La,Lh,Ji,LQ,LK,JB,Lc,Lu,Int.reduceBEq,Int.reduceEq,beq_self_eq_true,Bool.and_self,Bool.not_true,cond_true,cond_false, *]
 case WG r q=>simp only[KA,DN,z,Option.bind_some,Jh,LG,MC,KN,KI,LY,L8,KC,LM,KH,LX,KF,LU,LP,Ll,KG,LW,L6,KD,LJ,LZ,Lp,KL,Lj,KQ,La,Lh,Ji,LQ,LK,JB,Lc,ww q.1 (Int.lt_trans q.2 (by decide)),iV q,Lu,Int.reduceBEq,Int.reduceEq,beq_self_eq_true,Bool.and_self,Bool.not_true,cond_true,cond_false, *]
 case iT k f q h2=>rcases q with rfl|rfl<;>simp only[KA,DN,z,Option.bind_some,Jh,LG,MC,KN,KI,LY,L8,KC,LM,KH,LX,KF,LU,LP,Ll,KG,LW,L6,KD,LJ,LZ,Lp,KL,Lj,KQ,La,Lh,Ji,LQ,LK,JB,Lc,Lu,Int.reduceBEq,Int.reduceEq,beq_self_eq_true,Bool.and_self,Bool.not_true,cond_true,cond_false, *]
 case jB v q=>simp only[KA,DN,z,Option.bind_some,Jh,LG,MC,KN,KI,LY,L8,KC,LM,KH,LX,KF,LU,LP,Ll,KG,LW,L6,KD,LJ,LZ,Lp,KL,Lj,KQ,La,Lh,Ji,LQ,LK,JB,Lc,ww q.1 (Int.lt_trans q.2 (by decide)),iV q,Lu,Int.reduceBEq,Int.reduceEq,beq_self_eq_true,Bool.and_self,Bool.not_true,cond_true,cond_false, *]
 case Vy r k q h2=>simp only[KA,DN,z,Option.bind_some,Jh,LG,MC,KN,KI,LY,L8,KC,LM,KH,LX,KF,LU,LP,Ll,KG,LW,L6,KD,LJ,LZ,Lp,KL,Lj,KQ,La,Lh,Ji,LQ,LK,JB,Lc,ww q.1 (Int.lt_trans q.2 (by decide)),iV q,ww h2.1 (Int.lt_trans h2.2 (by decide)),iV h2,Int.lt_irrefl,ite_self,Lu,Int.reduceBEq,Int.reduceEq,beq_self_eq_true,Bool.and_self,Bool.not_true,cond_true,cond_false, *]
 case par u q=>
  have hb:=uX q;simp only[KA,DN,z,Option.bind_some,Jh,LG,MC,KN,KI,LY,L8,KC,LM,KH,LX,KF,LU,LP,Ll,KG,LW,L6,KD,LJ,LZ,Lp,KL,Lj,KQ,La,Lh,Ji,LQ,LK,JB,Lc,ww (show 0<=u.ET by omega) (by omega),ww (show 0<=u.ES by omega) (by omega),ww (show 0<=u.Dl by omega) (by omega),ww (show 0<=u.Dx by omega) (by omega),ww (show 0<=u.Ea by omega) (by omega),Lu,Int.reduceBEq,Int.reduceEq,beq_self_eq_true,Bool.and_self,Bool.not_true,cond_true,cond_false, *]
 case len k n q h2 h3=>rcases q with rfl|rfl<;>simp only[KA,DN,z,Option.bind_some,Jh,LG,MC,KN,KI,LY,L8,KC,LM,KH,LX,KF,LU,LP,Ll,KG,LW,L6,KD,LJ,LZ,Lp,KL,Lj,KQ,La,Lh,Ji,LQ,LK,JB,Lc,ww (show 0<=n by omega) (by omega),ZfI h2 h3,Lu,Int.reduceBEq,Int.reduceEq,beq_self_eq_true,Bool.and_self,Bool.not_true,cond_true,cond_false, *]
theorem Z3I (k:Int):(ER k=some ⟨true,true,false,true,false,false,false,false,false,false,false⟩/\k=0)\/(ER k=some ⟨true,false,true,true,false,false,false,false,false,false,false⟩/\k=1) \/
  (ER k=some ⟨true,false,false,false,true,false,false,false,false,false,false⟩/\k=2)\/(ER k=some ⟨true,false,false,false,false,false,true,true,false,false,false⟩/\k=3) \/
  (ER k=some ⟨true,false,false,false,false,false,true,false,false,false,false⟩/\k=4)\/(ER k=some ⟨true,false,false,false,false,false,false,false,false,false,false⟩/\(k=5\/k=6\/k=18\/k=19)) \/
  (ER k=some ⟨true,false,false,false,false,true,false,false,false,false,false⟩/\k=7)\/(ER k=some ⟨true,false,false,false,false,false,false,false,true,false,false⟩/\(k=8\/k=9)) \/
  (ER k=some ⟨true,false,false,false,false,false,false,false,false,true,false⟩/\k=12)\/(ER k=some ⟨true,false,false,false,true,true,false,false,false,false,false⟩/\k=13) \/
  (ER k=some ⟨true,true,false,false,false,false,false,false,false,false,false⟩/\k=15)\/(ER k=some ⟨true,false,false,false,false,false,false,false,false,false,true⟩/\(k=20\/k=21)) \/
  (ER k=some ND/\(k<0\/9<k/\k<12\/k=14\/15<k/\k<18\/21<k)):=by
 have e6:∀z,AV Nu (.b6 z)=some ND:=fun z=>(AZ _ _).trans rfl;have e5:∀z,AV Nu (.b5 z)=some ⟨true,false,false,false,false,false,false,false,false,false,true⟩:=fun z=>(AZ _ _).trans rfl;have e3:∀z,AV Nu (.b3 z)=some ⟨true,false,false,false,false,false,false,false,true,false,false⟩:=fun z=>(AZ _ _).trans rfl;have e1:∀z,AV Nu (.b1 z)=some ⟨true,false,false,false,false,false,false,false,false,false,false⟩:=fun z=>(AZ _ _).trans rfl;have N:=fun k z=>AZ Nu (.b4 k z);have M:=fun k z=>AZ Nu (.b2 k z);have J:ER k=_:=AZ Nu (.b0 k);simp only[Nu,DN,e6,e5,e3,e1]at N M J;simp only[N,M]at J;rw[J]
 by_cases O:k=0
 ·subst O;exact .inl ⟨rfl,rfl⟩
 by_cases Q:k=1
 ·subst Q;exact .inr (.inl ⟨rfl,rfl⟩)
 by_cases S:k=2
 ·subst S;exact .inr (.inr (.inl ⟨rfl,rfl⟩))
 by_cases Y:k=3
 ·subst Y;exact .inr (.inr (.inr (.inl ⟨rfl,rfl⟩)))
 by_cases h4:k=4
 ·subst h4;exact .inr (.inr (.inr (.inr (.inl ⟨rfl,rfl⟩))))
 by_cases h5:k=5
 ·subst h5;exact .inr (.inr (.inr (.inr (.inr (.inl ⟨rfl,.inl rfl⟩)))))
 by_cases h6:k=6
 ·subst h6;exact .inr (.inr (.inr (.inr (.inr (.inl ⟨rfl,.inr (.inl rfl)⟩)))))
 by_cases D:k=18
 ·subst D;exact .inr (.inr (.inr (.inr (.inr (.inl ⟨rfl,.inr (.inr (.inl rfl))⟩)))))
 by_cases F:k=19
 ·subst F;exact .inr (.inr (.inr (.inr (.inr (.inl ⟨rfl,.inr (.inr (.inr rfl))⟩)))))
 by_cases h7:k=7
 ·subst h7;exact .inr (.inr (.inr (.inr (.inr (.inr (.inl ⟨rfl,rfl⟩))))))
 by_cases h8:k=8
 ·subst h8;exact .inr (.inr (.inr (.inr (.inr (.inr (.inr (.inl ⟨rfl,.inl rfl⟩)))))))
 by_cases h9:k=9
 ·subst h9;exact .inr (.inr (.inr (.inr (.inr (.inr (.inr (.inl ⟨rfl,.inr rfl⟩)))))))
 by_cases q:k=12
 ·subst q;exact .inr (.inr (.inr (.inr (.inr (.inr (.inr (.inr (.inl ⟨rfl,rfl⟩))))))))
 by_cases A:k=13
 ·subst A;exact .inr (.inr (.inr (.inr (.inr (.inr (.inr (.inr (.inr (.inl ⟨rfl,rfl⟩)))))))))
 by_cases C:k=15
 ·subst C;exact .inr (.inr (.inr (.inr (.inr (.inr (.inr (.inr (.inr (.inr (.inl ⟨rfl,rfl⟩))))))))))
 by_cases G:k=20
 ·subst G;exact .inr (.inr (.inr (.inr (.inr (.inr (.inr (.inr (.inr (.inr (.inr (.inl ⟨rfl,.inl rfl⟩)))))))))))
 by_cases I:k=21
 ·subst I;exact .inr (.inr (.inr (.inr (.inr (.inr (.inr (.inr (.inr (.inr (.inr (.inl ⟨rfl,.inr rfl⟩)))))))))))
 refine .inr (.inr (.inr (.inr (.inr (.inr (.inr (.inr (.inr (.inr (.inr (.inr ⟨?_,by omega⟩)))))))))));rw[beq_false_of_ne O,beq_false_of_ne Q,beq_false_of_ne S,beq_false_of_ne Y,beq_false_of_ne h4,beq_false_of_ne h5,beq_false_of_ne h6,beq_false_of_ne D,beq_false_of_ne F,beq_false_of_ne h7,beq_false_of_ne h8,beq_false_of_ne h9,beq_false_of_ne q,beq_false_of_ne A,beq_false_of_ne C,beq_false_of_ne G,beq_false_of_ne I];rfl
def TE (c:AL) (u:Be):AL:=⟨0,bif u.BI then BR else c.BI,bif u.Map then 0 else c.Map,bif u.DF then 0 else c.DF,bif u.Bd then 0 else c.Bd,bif u.DT then 0 else c.DT,bif u.Bq then 0 else c.Bq,bif u.Mark then 0 else c.Mark,bif u.CW then 0 else c.CW,bif u.Version then 0 else c.Version,bif u.Length then 0 else c.Length⟩
theorem ZFb (c:AL) (u:Be) (hf:ER c.Kind=some u):o8 c=some (TE c u):=by
 have S:=fun x y=>AZ Gh (.b1 x y u);have Y:=fun x y=>AZ Gh (.b2 x y u);have e3:=fun x y=>AZ Gh (.b3 x y u);have e4:=fun x y=>AZ Gh (.b4 x y u);have e5:=fun x y=>AZ Gh (.b5 x y u);have e6:=fun x y=>AZ Gh (.b6 x y u);have e7:=fun x y=>AZ Gh (.b7 x y u);have e8:=fun x y=>AZ Gh (.b8 x y u);have e9:=fun x y=>AZ Gh (.b9 x y u);refine(AZ _ _).trans ?_;simp only[Gh,DN]at S Y e3 e4 e5 e6 e7 e8 e9 ⊢;simp only[hf,Option.bind_some];unfold TE;obtain⟨Q,C,D,F,G,I,J,M,N,O,q⟩:=u;have b1:(bif C then AV Gh (.b1 { c with Kind:=0,BI:=BR } Gg ⟨Q,C,D,F,G,I,J,M,N,O,q⟩) else AV Gh (.b1 { c with Kind:=0 } Gg ⟨Q,C,D,F,G,I,J,M,N,O,q⟩))=AV Gh (.b1 { c with Kind:=0,BI:=bif C then BR else c.BI } Gg ⟨Q,C,D,F,G,I,J,M,N,O,q⟩):=by cases C<;>rfl
 refine b1.trans ?_;have z:∀(b:Bool) (x y:AL) (f:AL->Option AL),(bif b then f x else f y)=f (bif b then x else y):=fun b _ _ _=>by cases b<;>rfl
 rw[S,z D _ _ (fun x=>AV Gh (.b2 x _ _)),Y,z F _ _ (fun x=>AV Gh (.b3 x _ _)),e3,z G _ _ (fun x=>AV Gh (.b4 x _ _)),e4,z I _ _ (fun x=>AV Gh (.b5 x _ _)),e5,z J _ _ (fun x=>AV Gh (.b6 x _ _)),e6,z M _ _ (fun x=>AV Gh (.b7 x _ _)),e7,z N _ _ (fun x=>AV Gh (.b8 x _ _)),e8,z O _ _ (fun x=>AV Gh (.b9 x _ _)),e9,z q _ _ some];congr 1;cases D<;>cases F<;>cases G<;>cases I<;>cases J<;>cases M<;>cases N<;>cases O<;>cases q<;>rfl
def JS (n:Int):Bool:=bif decide (n>=0) then decide (n<=255) else false
theorem ZAs (n:Int):U2 n=some (JS n):=(AZ _ _).trans (by
 simp only[Z0s,DN];unfold JS;cases decide (n>=0)<;>rfl)
theorem Z3E (n:Int):JS n=true↔R8 n:=by
 unfold JS R8
 by_cases h:n>=0
 ·rw[decide_eq_true h,cond_true,decide_eq_true_eq];omega
 ·rw[decide_eq_false h,cond_false];exact⟨(fun h=>nomatch h),fun q =>by omega⟩
def zC (x:AL):Bool:=(x.Kind==0)&&((x.BI.ET==0)&&((x.BI.ES==0)&&((x.BI.Dl==0)&&((x.BI.Dx==0)&&((x.BI.Ea==0)&&((x.Map==0)&&((x.DF==0)&&((x.Bd==0)&&((x.DT==0)&&((x.Bq==0)&&((x.Mark==0)&&((x.CW==0)&&((x.Version==0)&&((x.Length==0)&&true))))))))))))))
theorem ZDX (x:AL):zC x=true↔x=Gg:=by
 obtain⟨k,⟨a,b,c,d,e⟩,m,i,r,q,s,mk,f,v,l⟩:=x;simp[zC,Gg,BR,and_assoc]
def wI (c:AL) (u:Be):Int:=bif !u.Hm then 12 else bif !zC (TE c u) then 1 else bif u.BI&&(I7 c.BI != 0) then I7 c.BI else bif u.Map&&(Ik c.Map != 0) then Ik c.Map else bif !JS c.Bd then 5 else bif !JS c.DT then 5 else bif !JS c.Version then 5 else bif u.Length&&(decide (c.Length<27)||decide (c.Length>251)) then 5 else 0
theorem Za6 (c:AL) (u:Be) (q:ER c.Kind=some u) (hm:0<=c.Map/\c.Map<18446744073709551616):Ox c=some (wI c u):=by
 have C:AV Ud (.b2 c u)=some (bif !JS c.Bd then 5 else bif !JS c.DT then 5 else bif !JS c.Version then 5 else bif u.Length&&(decide (c.Length<27)||decide (c.Length>251)) then 5 else 0):=(AZ _ _).trans (by
  simp only[Ud,DN,ZAs,Option.bind_some];cases JS c.Bd<;>cases JS c.DT<;>cases JS c.Version<;>cases u.Length<;>cases decide (c.Length<27)<;>cases decide (c.Length>251)<;>rfl)
 have A:AV Ud (.b1 c u)=some (bif u.Map&&(Ik c.Map != 0) then Ik c.Map else bif !JS c.Bd then 5 else bif !JS c.DT then 5 else bif !JS c.Version then 5 else bif u.Length&&(decide (c.Length<27)||decide (c.Length>251)) then 5 else 0):=(AZ _ _).trans (by
  have h:=ZsP c.Map.toNat (by omega);rw[Int.toNat_of_nonneg hm.1]at h;simp only[Ud,DN,h,Option.bind_some,C];cases u.Map<;>cases (Ik c.Map != 0)<;>rfl)
 refine(AZ _ _).trans ?_;simp only[Ud,DN,q,Option.bind_some,ZFb c u q,Zji,A];unfold wI;rw[show zC (TE c u)=_ from rfl];cases u.Hm
 ·rfl
 ·simp only[Bool.not_true,cond_false];unfold zC;generalize ((TE c u).Kind==0&&_)=z;cases z
  ·rfl
  ·cases u.BI<;>cases (I7 c.BI != 0)<;>rfl
theorem RJ {x:Bool} {a b:Int} (h:x=true->a≠0):(bif x then a else b)=0↔x=false/\b=0:=by cases x<;>simp_all
theorem Zei {c:AL} {u:Be}:wI c u=0↔u.Hm=true/\TE c u=Gg/\(u.BI=true->I7 c.BI=0)/\(u.Map=true->Ik c.Map=0)/\R8 c.Bd/\R8 c.DT/\R8 c.Version/\(u.Length=true->27<=c.Length/\c.Length<=251):=by
 rw[<- ZDX,<- Z3E,<- Z3E,<- Z3E];unfold wI;have q:(u.BI&&(I7 c.BI != 0))=false↔(u.BI=true->I7 c.BI=0):=by cases u.BI<;>simp
 have z:(u.Map&&(Ik c.Map != 0))=false↔(u.Map=true->Ik c.Map=0):=by cases u.Map<;>simp
 have A:(u.Length&&(decide (c.Length<27)||decide (c.Length>251)))=false↔(u.Length=true->27<=c.Length/\c.Length<=251):=by cases u.Length<;>simp
 rw[RJ (fun _=>by decide),RJ (fun _=>by decide),RJ (fun h=>by simp at h;exact h.2),RJ (fun h=>by simp at h;exact h.2),RJ (fun _=>by decide),RJ (fun _=>by decide),RJ (fun _=>by decide),RJ (fun _=>by decide),q,z,A];simp only[Bool.not_eq_false',and_true]
theorem Ztv {c:AL} (h:CV c):Ox c=some 0:=by
 have hm:0<=c.Map/\c.Map<18446744073709551616:=by cases h<;>first|assumption|exact(⟨by decide,by decide⟩:CB 0)
 have A:R8 0:=⟨by decide,by decide⟩;rcases Z3I c.Kind with ⟨q,z⟩|⟨q,z⟩|⟨q,z⟩|⟨q,z⟩|⟨q,z⟩|⟨q,z⟩|⟨q,z⟩|⟨q,z⟩|⟨q,z⟩|⟨q,z⟩|⟨q,z⟩|⟨q,z⟩|⟨q,z⟩
 all_goals
  rw[Za6 c _ q hm];refine congrArg some (Zei.2 ?_);cases h<;>first|(exfalso;dsimp only at z;omega)|(refine⟨rfl,rfl,?_,?_,?_,?_,?_,?_⟩<;>first|assumption|(intro;assumption)|(intro;exact⟨by assumption,by assumption⟩)|(intro h;exact nomatch h))
theorem ZqJ (c:AL) (hm:CB c.Map) (J:R16 c.DF) (M:CB c.Bq) (C : CB c.Mark) (A:CB c.CW):∃r,Ox c=some r/\(r=0->CV c):=by
 rcases Z3I c.Kind with ⟨z,q⟩|⟨z,q⟩|⟨z,q⟩|⟨z,q⟩|⟨z,q⟩|⟨z,q⟩|⟨z,q⟩|⟨z,q⟩|⟨z,q⟩|⟨z,q⟩|⟨z,q⟩|⟨z,q⟩|⟨z,q⟩
 all_goals
  refine⟨_,Za6 c _ z hm,fun Y=>?_⟩;obtain⟨S,N,D,O,F,G,Q,I⟩:=Zei.1 Y;obtain⟨k,u,m,i,r,rj,s,mk,f,v,l⟩:=c
  first
   | exact absurd S (by decide)
   | (simp only[TE,Gg,cond_true,cond_false,AL.mk.injEq,true_and,and_true]at N
      dsimp only at q D O F G Q I hm J M C A;simp only[N]
      first
       | (subst q;first|exact CV.upd _ _ (D rfl) J|exact CV.map _ _ hm (O rfl) J|exact CV.term _ F|exact CV.enc _ _ M C | exact CV.ans _ M|exact CV.WG _ G|exact CV.jB _ Q|exact CV.Vy _ _ F G|exact CV.par _ (D rfl))
       | exact CV.plain _ q
       | exact CV.iT _ _ q A
       | exact CV.len _ _ q (I rfl).1 (I rfl).2)
theorem Z11 (z:AL) (q:Bj z):∃r,Ox z=some r/\(r=0->CV z):=ZqJ z q.1 q.2.1 q.2.2.1 q.2.2.2.1 q.2.2.2.2.1
set_option linter.defProp false
set_option maxHeartbeats 40000000
theorem Bh:(∀(α:Type) (a b:List α),(a++b).length=a.length+b.length)/\(∀(α:Type) (a:α) (l:List α),(a::l).length=l.length+1)/\(∀α:Type,([]:List α).length=0)/\(∀(α:Type) (n:Nat) (l:List α),(l.take n).length=min n l.length)/\(∀(α:Type) (n:Nat) (l:List α),(l.drop n).length=l.length - n)/\(∀(α:Type) (l:List α) (i:Nat) (a:α),(l.set i a).length=l.length)/\(∀(α:Type) (n:Nat) (a:α),(List.replicate n a).length=n):=
 ⟨fun _ _ _=>List.length_append,fun _ _ _=>List.length_cons,fun _=>List.length_nil,fun _ _ _=>List.length_take,fun _ _ _=>List.length_drop,fun _ _ _ _=>List.length_set,fun _ _ _=>List.length_replicate⟩
theorem ED:(∀a b:Bool,((a&&b)=true)=(a=true/\b=true))/\(∀a b:Bool,((a||b)=true)=(a=true\/b=true))/\(∀(p:Prop) [Decidable p],(decide p=true)=p)/\(∀(α:Type) [BEq α] [LawfulBEq α] (a b:α),((a==b)=true)=(a=b))/\(∀(α:Type) [BEq α] [LawfulBEq α] (a b:α),((a != b)=true)=(a≠b))/\(∀(α:Type) [BEq α] [ReflBEq α] (a:α),(a==a)=true)/\(∀p:Prop,(p/\p)=p)/\(∀p:Prop,(p/\True)=p)/\(∀p:Prop,(True/\p)=p)/\(∀(α q:Type) (f:α->q) (l:List α),(l.map f).length=l.length):=
 ⟨Bool.and_eq_true,Bool.or_eq_true,fun _ _=>decide_eq_true_eq,fun _ _ _ _ _=>propext beq_iff_eq,fun _ _ _ _ _=>propext bne_iff_ne,fun _ _ _ a=>beq_self_eq_true a,and_self,and_true,true_and,fun _ _ _ _=>List.length_map _⟩
theorem Fg:(∀(p:Prop) [Decidable p],(decide p=true)=p)/\(∀(p:Prop) [Decidable p],(decide p=false)=¬p)/\(∀b:Bool,((!b)=true)=(b=false))/\(∀b:Bool,((!b)=false)=(b=true))/\(∀b:Bool,(¬b=true)=(b=false))/\(∀b:Bool,(¬b=false)=(b=true))/\(∀(α:Type) [BEq α] [LawfulBEq α] (a b:α),((a==b)=true)=(a=b))/\(∀(α:Type) [BEq α] [LawfulBEq α] (a b:α),((a != b)=true)=(a≠b)) /\
  (∀(α:Type) [BEq α] [LawfulBEq α] (a b:α),((a==b)=false)=(a≠b))/\(∀(α:Type) [BEq α] [LawfulBEq α] (a b:α),((a != b)=false)=(a=b))/\(∀(α:Type) (a b:α),(a≠b)=¬a=b)/\(∀a b:Bool,((a&&b)=true)=(a=true/\b=true))/\(∀a b:Bool,((a||b)=true)=(a=true\/b=true))/\(∀p:Prop,(¬¬p)=p):=
 ⟨fun _ _=>decide_eq_true_eq,fun _ _=>propext decide_eq_false_iff_not,fun b=>by cases b<;>simp,fun b=>by cases b<;>simp,fun b=>by cases b<;>simp,fun b=>by cases b<;>simp,fun _ _ _ _ _=>propext beq_iff_eq,fun _ _ _ _ _=>propext bne_iff_ne,fun _ _ _ _ _=>propext beq_eq_false_iff_ne,fun _ _ _ _ _=>propext bne_eq_false_iff_eq,fun _ _ _=>rfl,Bool.and_eq_true,Bool.or_eq_true,fun _=>propext Classical.not_not⟩
theorem Ze9 {L:Type} {l:List (Aw)} {i:Int} {k:Aw->Tr U L} {Q:L->Prop} (h:0<=i/\i<(l.length:Int)) (g:∀v:Aw,v∈l->Tot (k v) Q):Tot (Tr.bind (U:=U) 68 (l[Int.toNat i]? : Option (Aw)) k) Q:=OM (U:=U) (t:=68) h g
theorem Z3h {L:Type} {l:List (AL)} {i:Int} {k:AL->Tr U L} {Q:L->Prop} (h:0<=i/\i<(l.length:Int)) (g:∀v:AL,v∈l->Tot (k v) Q):Tot (Tr.bind (U:=U) 156 (l[Int.toNat i]? : Option (AL)) k) Q:=OM (U:=U) (t:=156) h g
theorem Z3d {L:Type} {l:List (BP)} {i:Int} {k:BP->Tr U L} {Q:L->Prop} (h:0<=i/\i<(l.length:Int)) (g:∀v:BP,v∈l->Tot (k v) Q):Tot (Tr.bind (U:=U) 138 (l[Int.toNat i]? : Option (BP)) k) Q:=OM (U:=U) (t:=138) h g
theorem Z3m {L:Type} {l:List (BV)} {i:Int} {k:BV->Tr U L} {Q:L->Prop} (h:0<=i/\i<(l.length:Int)) (g:∀v:BV,v∈l->Tot (k v) Q):Tot (Tr.bind (U:=U) 99 (l[Int.toNat i]? : Option (BV)) k) Q:=OM (U:=U) (t:=99) h g
theorem ZeP {L:Type} {l:List (Int)} {i:Int} {k:Int->Tr U L} {Q:L->Prop} (h:0<=i/\i<(l.length:Int)) (g:∀v:Int,v∈l->Tot (k v) Q):Tot (Tr.bind (U:=U) 3 (l[Int.toNat i]? : Option (Int)) k) Q:=OM (U:=U) (t:=3) h g
theorem Qp {L:Type} {l:List (Int)} {i:Int} {k:Int->Tr U L} {Q:L->Prop} (h:0<=i/\i<(l.length:Int)) (g:∀v:Int,v∈l->Tot (k v) Q):Tot (Tr.bind (U:=U) 5 (l[Int.toNat i]? : Option (Int)) k) Q:=OM (U:=U) (t:=5) h g
theorem ZCU {L:Type} {l:List (Int)} {i:Int} {k:Int->Tr U L} {Q:L->Prop} (h:0<=i/\i<(l.length:Int)) (g:∀v:Int,v∈l->Tot (k v) Q):Tot (Tr.bind (U:=U) 25 (l[Int.toNat i]? : Option (Int)) k) Q:=OM (U:=U) (t:=25) h g
theorem Zdz {L:Type} {l:List (BB)} {i:Int} {k:BB->Tr U L} {Q:L->Prop} (h:0<=i/\i<(l.length:Int)) (g:∀v:BB,v∈l->Tot (k v) Q):Tot (Tr.bind (U:=U) 148 (l[Int.toNat i]? : Option (BB)) k) Q:=OM (U:=U) (t:=148) h g
theorem ZCS {L:Type} {l:List (Gi)} {i:Int} {k:Gi->Tr U L} {Q:L->Prop} (h:0<=i/\i<(l.length:Int)) (g:∀v:Gi,v∈l->Tot (k v) Q):Tot (Tr.bind (U:=U) 83 (l[Int.toNat i]? : Option (Gi)) k) Q:=OM (U:=U) (t:=83) h g
theorem ZAZ {L:Type} {l:List (Ej)} {i:Int} {k:Ej->Tr U L} {Q:L->Prop} (h:0<=i/\i<(l.length:Int)) (g:∀v:Ej,v∈l->Tot (k v) Q):Tot (Tr.bind (U:=U) 113 (l[Int.toNat i]? : Option (Ej)) k) Q:=OM (U:=U) (t:=113) h g
theorem Jq:(∀(q p1 p2:Int),∃r,Ns q p1 p2=some r/\True) /\
  (∀(q p1 p2:Int),∃r,UU q p1 p2=some r/\True) /\
  (∃r,Z2S=some r/\(r=Jj)) /\
  (∀(q:Int),∃r,qI q=some r/\True) /\
  (∀(q p1 p2:Int),CB p1->∃r,Z2B q p1 p2=some r/\BK r) /\
  (∃r,Z1d=some r/\(r.length<=37)) /\
  (∀(q:Dv) (p1:Bool),∃r,oZ q p1=some r/\True) /\
  (∀(q:BQ),DJ q->∃r,Z2f q=some r/\True) /\
  (∀(q:Int),∃r,XJ q=some r/\True) /\
  (∀(q:Int),∃r,YU q=some r/\True) /\
  (∀(q p1:Int),∃r,oW q p1=some r/\True) /\
  (∀(q:Aa),BK q->∃r,Y4 q=some r/\True) /\
  (∀(q:Int),∃r,lY q=some r/\True) /\
  (∀(q:Int),∃r,ER q=some r/\D8 r):=by
 refine⟨fun q p1 p2=>BG (fun(p:Xi)=>True) (fun(p:Xi)=>(0,0,0)) ?_ _ ?_,
  fun q p1 p2=>BG (fun(p:X0)=>True) (fun(p:X0)=>(0,0,0)) ?_ _ ?_,
  BG (fun(p:bZ)=>True) (fun(p:bZ)=>(0,0,0)) ?_ _ ?_,
  fun q=>BG (fun(p:bV)=>True) (fun(p:bV)=>(0,0,0)) ?_ _ ?_,
  fun q p1 p2 C=>BG (fun(p:dW)=>match p with | .b0 _ D _=>CB D) (fun(p:dW)=>(0,0,0)) ?_ _ ?_,
  BG (fun(p:Y2)=>True) (fun(p:Y2)=>(0,0,0)) ?_ _ ?_,
  fun q p1=>BG (fun(p:aT)=>True) (fun(p:aT)=>(0,0,0)) ?_ _ ?_,
  fun q C=>BG (fun(p:bK)=>match p with | .b0 A=>DJ A) (fun(p:bK)=>(0,0,0)) ?_ _ ?_,
  fun q=>BG (fun(p:XL)=>match p with | .b0 ..=>True | .b1 _ _ z=>0<=z/\z<=8) (fun(p:XL)=>match p with | .b0 ..=>(1,0,0) | .b1 _ _ z=>(0,(8 - z).toNat,0)) ?_ _ ?_,
  fun q=>BG (fun(p:YA)=>True) (fun(p:YA)=>(0,0,0)) ?_ _ ?_,
  fun q p1=>BG (fun(p:bI)=>True) (fun(p:bI)=>(0,0,0)) ?_ _ ?_,
  fun q C=>BG (fun(p:YI)=>match p with | .b0 A=>BK A) (fun(p:YI)=>(0,0,0)) ?_ _ ?_,
  fun q=>BG (fun(p:XR)=>True) (fun(p:XR)=>(0,0,0)) ?_ _ ?_,
  fun q=>BG (fun(p:Xt)=>True) (fun(p:Xt)=>match p with | .b0 ..=>(0,0,3) | .b2 ..=>(0,0,2) | .b4 ..=>(0,0,1)|_=>(0,0,0)) ?_ _ ?_⟩
 all_goals try (intro p hp;cases p)
 all_goals
  try dsimp only at hp
  try exact False.elim hp
  try have F:=hp
  try dsimp only[BO,DJ,BK,DW,CG,Ef,Em,EN]at F
  try (repeat with_reducible (have G:=And.left hp;replace hp:=And.right hp))
  try simp only[Z0u,Z7N,ZcJ,Zd7,ZcZ,Z9Q,Zbo,Zbt,XH,Z1g,ZbM,Z0P,ZX,Nu]
  try dsimp only
  repeat' first|(refine EM ?_;dsimp only;try simp(disch:=omega) only[Bo,Bh,List.nil_append,List.drop_zero])|(refine EG (fun h=>?_) (fun h=>?_)<;>(try simp only[Fg,reduceCtorEq]at h;try simp(disch:=omega) only[Bo]at h))|refine Dw ?_ ?_|refine Gq ?_|with_reducible apply And.intro|rfl|assumption|exact True.intro|omega|exact decide_eq_true (GM _).1|exact GI (by assumption) (by omega)|exact Gp (by assumption) (by omega)|(refine FV.2 ?_;first|omega|grind)|(apply GX;first|omega|(simp only[Bh];omega))|(simp only[ED,Bh,Cf,maxLen_eq,kL,kA]<;>omega)|(simp(disch:=omega) only[Bo,decide_eq_true_eq,bne_iff_ne,ne_eq];(repeat' split)<;>omega)|(simp[D8,Ez];done)|grind|(simp only[ED,Bh,Cf,maxLen_eq,kL,kA]<;>grind)|grind [Di]
def Z93:=Jq.1
def Z8J:=Jq.2.1
def ZxZ:=Jq.2.2.1
def Zdd:=Jq.2.2.2.1
def ZxJ:=Jq.2.2.2.2.1
def ZrJ:=Jq.2.2.2.2.2.1
def Zbx:=Jq.2.2.2.2.2.2.1
def Zvu:=Jq.2.2.2.2.2.2.2.1
def Zmp:=Jq.2.2.2.2.2.2.2.2.1
def Za7:=Jq.2.2.2.2.2.2.2.2.2.1
def Zu9:=Jq.2.2.2.2.2.2.2.2.2.2.1
def ZrO:=Jq.2.2.2.2.2.2.2.2.2.2.2.1
def ZnZ:=Jq.2.2.2.2.2.2.2.2.2.2.2.2.1
def UW:=Jq.2.2.2.2.2.2.2.2.2.2.2.2.2
theorem Kt:(∀(q:Int),∃r,U2 q=some r/\True) /\
  (∀(q p1:Int),0<=p1->p1<=8->∃r,Hf q p1=some r/\(r.q0.length:Int)=p1/\CU r.q0) /\
  (∀(q:Int),∃r,Ur q=some r/\((r=true->Di q))) /\
  (∀(q:Aw),∃r,kS q=some r/\((r=0->1<=q.Ba/\q.Ba<=3/\(1<=q.Payload.length\/q.Ba=1)/\q.Payload.length<=255))) /\
  (∀(q:Aw),∃r,XN q=some r/\((r=false->q.Ba=1->1<=q.Payload.length))) /\
  (∃r,nU=some r/\(r=⟨1,[]⟩)) /\
  (∀(q:Aw),∃r,Rq q=some r/\((r=false->q.Ba=1->1<=q.Payload.length))) /\
  (∀(q:BD) (p1:List Int),∃r,aU q p1=some r/\r = { q with Ak:={ q.Ak with Payload:=p1 } }) /\
  (∀(q p1:Int),0<=p1->p1<=32->∃r,OC q p1=some r/\True) /\
  (∀(q p1:Int),0<=q->q<=8->∃r,Lr q p1=some r/\(r.q0.length:Int)=q/\CU r.q0) /\
  (∀(q:List Int),q.length<=1000000->∃r,nR q=some r/\CB r) /\
  (∀(q p1:List Int),q.length<=1000000->∃r,dK q p1=some r/\(r.q0.length<=q.length/\CU r.q0/\(q.length<=p1.length->r.q0.length=q.length))) /\
  (∀(q:Cb) (p1 p2:Int),Gv q->∃r,YK q p1 p2=some r/\CB r) /\
  (∀(q:Int),∃r,aZ q=some r/\r.length=3/\CU r):=by
 refine⟨fun q=>BG (fun(p:Xc)=>True) (fun(p:Xc)=>(0,0,0)) ?_ _ ?_,
  fun q p1 F G=>BG (fun(p:dP)=>match p with | .b0 _ A=>A=p1/\0<=A/\A<=8 | .b1 _ A D C=>A=p1/\0<=A/\A<=8/\0<=C/\C<=A/\(D.length:Int)=C/\CU D) (fun(p:dP)=>match p with | .b0 ..=>(1,0,0) | .b1 _ A _ C=>(0,(A - C).toNat,0)) ?_ _ ?_,
  fun q=>BG (fun(p:cZ)=>match p with | .b0 z=>z=q) (fun(p:cZ)=>(0,0,0)) ?_ _ ?_,
  fun q=>BG (fun(p:Wu)=>match p with | .b0 z=>z=q | .b1 z=>z=q/\1<=z.Ba/\z.Ba<=3 | .b2 z=>(z=q/\1<=z.Ba/\z.Ba<=3/\(1<=z.Payload.length\/z.Ba=1))) (fun(p:Wu)=>match p with | .b0 ..=>(0,0,2) | .b1 ..=>(0,0,1) | .b2 ..=>(0,0,0)) ?_ _ ?_,
  fun q=>BG (fun(p:XV)=>match p with | .b0 z=>z=q) (fun(p:XV)=>(0,0,0)) ?_ _ ?_,
  BG (fun(p:YZ)=>True) (fun(p:YZ)=>(0,0,0)) ?_ _ ?_,
  fun q=>BG (fun(p:Y1)=>match p with | .b0 z=>z=q) (fun(p:Y1)=>(0,0,0)) ?_ _ ?_,
  fun q p1=>BG (fun(p:Yw)=>match p with | .b0 z A=>z=q/\A=p1) (fun(p:Yw)=>(0,0,0)) ?_ _ ?_,
  fun q p1 F G=>BG (fun(p:bD)=>match p with | .b0 _ A=>0<=A/\A<=32) (fun(p:bD)=>(0,0,0)) ?_ _ ?_,
  fun q p1 F G=>BG (fun(p:dO)=>match p with | .b0 z _=>z=q/\0<=z/\z<=8 | .b1 z _ D C=>z=q/\0<=z/\z<=8/\0<=C/\C<=z/\(D.length:Int)=C/\CU D) (fun(p:dO)=>match p with | .b0 ..=>(1,0,0) | .b1 z _ _ C=>(0,(z - C).toNat,0)) ?_ _ ?_,
  fun q F=>BG (fun(p:YS)=>match p with | .b0 z=>z.length<=1000000 | .b1 z A D=>-1<=D/\D<(z.length:Int)/\z.length<=1000000/\CB A) (fun(p:YS)=>match p with | .b0 ..=>(1,0,0) | .b1 _ _ D=>(0,(D+1).toNat,0)) ?_ _ ?_,
  fun q p1 F=>BG (fun(p:bT)=>match p with | .b0 z A=>z=q/\A=p1 | .b1 z A D C=>(z=q/\A=p1/\z.length<=1000000/\0<=C/\C<=(z.length:Int)/\(q.length<=p1.length\/C<=(A.length:Int))/\(D.length:Int)=C/\CU D) | .b2 z A D C=>z=q/\A=p1/\z.length<=1000000/\0<=C/\C<(z.length:Int)/\C<(A.length:Int)/\(D.length:Int)=C/\CU D) (fun(p:bT)=>match p with | .b0 ..=>(1,0,0) | .b1 z _ _ C=>(0,((z.length:Int) - C).toNat,1) | .b2 z _ _ C=>(0,((z.length:Int) - C).toNat,0)) ?_ _ ?_,
  fun q p1 p2 F=>BG (fun(p:Yn)=>match p with | .b0 z _ _=>Gv z | .b1 _ _ D=>Gv D) (fun(p:Yn)=>match p with | .b0 ..=>(0,0,1) | .b1 ..=>(0,0,0)) ?_ _ ?_,
  fun q=>BG (fun(p:aN)=>True) (fun(p:aN)=>(0,0,0)) ?_ _ ?_⟩
 all_goals try (intro p hp;cases p)
 all_goals
  try dsimp only at hp
  try exact False.elim hp
  try have I:=hp
  try dsimp only[BO,DJ,BK,DW,CG,Ef,Em,EN]at I
  try (repeat with_reducible (have J:=And.left hp;replace hp:=And.right hp))
  try simp only[Z0s,Ux,Z2H,RZ,Z8F,ZaL,Z1a,Zb9,ZbI,Um,Ue,SH,oC,Z1z]
  try dsimp only
  repeat' first|(refine EM ?_;dsimp only;try simp(disch:=omega) only[Bo,Bh,List.nil_append,List.drop_zero])|(refine EG (fun h=>?_) (fun h=>?_)<;>(try simp only[Fg,reduceCtorEq]at h;try simp(disch:=omega) only[Bo]at h))|refine Dw ?_ ?_|refine Gq ?_|refine Qp ?_ fun v M=>?_|with_reducible apply And.intro|rfl|assumption|exact True.intro|omega|exact decide_eq_true (GM _).1|exact GI (by assumption) (by omega)|exact Gp (by assumption) (by omega)|(refine FV.2 ?_;first|omega|grind)|(apply GX;first|omega|(simp only[Bh];omega))|(simp only[ED,Bh,Cf,maxLen_eq,kL,kA]<;>omega)|(simp(disch:=omega) only[Bo,decide_eq_true_eq,bne_iff_ne,ne_eq];(repeat' split)<;>omega)|(simp[D8,Ez];done)|grind|(simp only[ED,Bh,Cf,maxLen_eq,kL,kA]<;>grind)|grind [Di]
def Zd4:=Kt.2.1
def Zzy:=Kt.2.2.1
def ZjF:=Kt.2.2.2.1
def Z8c:=Kt.2.2.2.2.1
def ZtA:=Kt.2.2.2.2.2.1
def Z1u:=Kt.2.2.2.2.2.2.1
def ZuC:=Kt.2.2.2.2.2.2.2.1
def Zvq:=Kt.2.2.2.2.2.2.2.2.1
def Z2x:=Kt.2.2.2.2.2.2.2.2.2.1
def Zu3:=Kt.2.2.2.2.2.2.2.2.2.2.1
def ZzF:=Kt.2.2.2.2.2.2.2.2.2.2.2.1
def Zu4:=Kt.2.2.2.2.2.2.2.2.2.2.2.2.1
def ZuE:=Kt.2.2.2.2.2.2.2.2.2.2.2.2.2
theorem Jo:(∀(q p1:Int),∃r,o5 q p1=some r/\True) /\
  (∀(q:Int),∃r,oJ q=some r/\True) /\
  (∀(q:Int),∃r,pK q=some r/\True) /\
  (∀(q:Dv) (p1:Bool),∃r,Z0w q p1=some r/\True) /\
  (∀(q:List BV) (p1:Int) (p2:Bool),q.length<=37->∃r,Xb q p1 p2=some r/\r.length<=37) /\
  (∀(q p1:Int),∃r,Z22 q p1=some r/\True) /\
  (∀(q:Int),∃r,QY q=some r/\True) /\
  (∀(q p1:Int),∃r,qM q p1=some r/\R16 r) /\
  (∀(q:AL),∃r,nJ q=some r/\r.Map=q.Map/\r.DF=q.DF) /\
  (∀(k:Int) (q:A8) (p1:Int),BO k q->0<=k->k<=1000000->∃r,qC q p1=some r/\BO k r.1/\r.2.length<=1) /\
  (∀(q:Int),∃r,Zm q=some r/\True) /\
  (∀(q:Aa) (p1:AL),BK q->Bj p1->∃r,Z0H q p1=some r/\Bj r) /\
  (∀(q:Aa) (p1:Int),BK q->∃r,Z1w q p1=some r/\True) /\
  (∀(q:Int),∃r,nH q=some r/\True):=by
 refine⟨fun q p1=>BG (fun(p:aG)=>True) (fun(p:aG)=>(0,0,0)) ?_ _ ?_,
  fun q=>BG (fun(p:Y7)=>True) (fun(p:Y7)=>(0,0,0)) ?_ _ ?_,
  fun q=>BG (fun(p:Yq)=>True) (fun(p:Yq)=>(0,0,0)) ?_ _ ?_,
  fun q p1=>BG (fun(p:Xr)=>True) (fun(p:Xr)=>(0,0,0)) ?_ _ ?_,
  fun q p1 p2 D=>BG (fun(p:Xe)=>match p with | .b0 z _ _=>z.length<=37 | .b1 z _ A=>A.length<=37/\0<=z/\z<(A.length:Int) | .b2 z _ A=>A.length<=37/\0<=z/\z<(A.length:Int) | .b3 z _ A=>A.length<=37/\0<=z/\z<(A.length:Int) | .b4 z C=>C.length<=37/\0<=z/\z<(C.length:Int)) (fun(p:Xe)=>match p with | .b0 ..=>(0,0,4) | .b1 ..=>(0,0,3) | .b2 ..=>(0,0,2) | .b3 ..=>(0,0,1) | .b4 ..=>(0,0,0)) ?_ _ ?_,
  fun q p1=>BG (fun(p:aF)=>True) (fun(p:aF)=>match p with | .b0 ..=>(0,0,1) | .b1 ..=>(0,0,0)) ?_ _ ?_,
  fun q=>BG (fun(p:YD)=>True) (fun(p:YD)=>(0,0,0)) ?_ _ ?_,
  fun q p1=>BG (fun(p:dZ)=>True) (fun(p:dZ)=>(0,0,0)) ?_ _ ?_,
  fun q=>BG (fun(p:X7)=>match p with | .b0 z=>z=q) (fun(p:X7)=>(0,0,0)) ?_ _ ?_,
  fun k q p1 D F J=>BG (fun(p:dI)=>match p with | .b0 z _=>BO k z) (fun(p:dI)=>(0,0,0)) ?_ _ ?_,
  fun q=>BG (fun(p:XF)=>True) (fun(p:XF)=>match p with | .b0 ..=>(0,0,4) | .b1 ..=>(0,0,3) | .b2 ..=>(0,0,2) | .b3 ..=>(0,0,1) | .b4 ..=>(0,0,0)) ?_ _ ?_,
  fun q p1 D F=>BG (fun(p:X8)=>match p with | .b0 z C=>BK z/\Bj C | .b1 z _=>Bj z) (fun(p:X8)=>match p with | .b0 ..=>(0,0,1) | .b1 ..=>(0,0,0)) ?_ _ ?_,
  fun q p1 D=>BG (fun(p:Yl)=>match p with | .b0 z _=>BK z | .b1 _ C A=>BK A/\0<=C/\C<=(A.BJ.length:Int)) (fun(p:Yl)=>match p with | .b0 ..=>(1,0,0) | .b1 _ C A=>(0,((A.BJ.length:Int) - C).toNat,0)) ?_ _ ?_,
  fun q=>BG (fun(p:Xq)=>True) (fun(p:Xq)=>(0,0,0)) ?_ _ ?_⟩
 all_goals try (intro p hp;cases p)
 all_goals
  try dsimp only at hp
  try exact False.elim hp
  try have I:=hp
  try dsimp only[BO,DJ,BK,DW,CG,Ef,Em,EN]at I
  try (repeat with_reducible (have M:=And.left hp;replace hp:=And.right hp))
  try simp only[Z1C,Z0L,Z1H,Z9N,Z9c,Zcl,ZaK,ZcI,Z9f,ZcL,Z7e,Z9d,Zas,Z9r]
  try dsimp only
  repeat' first|(refine EM ?_;dsimp only;try simp(disch:=omega) only[Bo,Bh,List.nil_append,List.drop_zero])|(refine EG (fun h=>?_) (fun h=>?_)<;>(try simp only[Fg,reduceCtorEq]at h;try simp(disch:=omega) only[Bo]at h))|refine Dw ?_ ?_|refine Gq ?_|refine Z3m ?_ fun v G=>?_|refine Z3h ?_ fun v G=>?_|with_reducible apply And.intro|rfl|assumption|exact True.intro|omega|exact decide_eq_true (GM _).1|exact GI (by assumption) (by omega)|exact Gp (by assumption) (by omega)|(refine FV.2 ?_;first|omega|grind)|(apply GX;first|omega|(simp only[Bh];omega))|(simp only[ED,Bh,Cf,maxLen_eq,kL,kA]<;>omega)|(simp(disch:=omega) only[Bo,decide_eq_true_eq,bne_iff_ne,ne_eq];(repeat' split)<;>omega)|(simp[D8,Ez];done)|grind|(simp only[ED,Bh,Cf,maxLen_eq,kL,kA]<;>grind)|grind [Di]
def Zvb:=Jo.1
def ZqS:=Jo.2.1
def ZuV:=Jo.2.2.1
def Zpf:=Jo.2.2.2.1
def Z9u:=Jo.2.2.2.2.1
def ZwB:=Jo.2.2.2.2.2.1
def Z9S:=Jo.2.2.2.2.2.2.1
def ZyX:=Jo.2.2.2.2.2.2.2.1
def Zpp:=Jo.2.2.2.2.2.2.2.2.1
def Zct:=Jo.2.2.2.2.2.2.2.2.2.1
def Zlv:=Jo.2.2.2.2.2.2.2.2.2.2.1
def Zqz:=Jo.2.2.2.2.2.2.2.2.2.2.2.1
def ZtF:=Jo.2.2.2.2.2.2.2.2.2.2.2.2.1
def Zop:=Jo.2.2.2.2.2.2.2.2.2.2.2.2.2
theorem NS:(∀(q:AL),∃r,NK q=some r/\r=[q]) /\
  (∀(q:Cb) (p1 p2:Bool),Gv q->∃r,Yt q p1 p2=some r/\Gv r) /\
  (∀(q:Int),∃r,QW q=some r/\0<=r/\r<=65536) /\
  (∀(q:List BV) (p1:Int),q.length<=37->∃r,eX q p1=some r/\True) /\
  (∀(q:List Int),q.length<=65536->CU q->∃r,Z0t q=some r/\CG r.1.Ak) /\
  (∀(q p1:List Int),q.length<=100000->p1.length<=100000->∃r,Z1U q p1=some r/\True) /\
  (∀(q:Int),∃r,Z0T q=some r/\True) /\
  (∀(q:Cb) (p1 p2:Bool),Gv q->∃r,o7 q p1 p2=some r/\Gv r) /\
  (∀(q:List Int) (p1 p2:Int),0<=p1->0<=p2->p2<=8->p1+p2<=(q.length:Int)->q.length<=1000000->∃r,Lt q p1 p2=some r/\CB r) /\
  (∀(q:List BB) (p1:Int),q.length<=1->∃r,nP q p1=some r/\r.length<=1) /\
  (∀(q p1:Int),∃r,Ld q p1=some r/\r.length=1):=by
 refine⟨fun q=>BG (fun(p:dN)=>match p with | .b0 z=>z=q) (fun(p:dN)=>(0,0,0)) ?_ _ ?_,
  fun q p1 p2 F=>BG (fun(p:aQ)=>match p with | .b0 z _ _=>Gv z) (fun(p:aQ)=>(0,0,0)) ?_ _ ?_,
  fun q=>BG (fun(p:Yh)=>True) (fun(p:Yh)=>(0,0,0)) ?_ _ ?_,
  fun q p1 F=>BG (fun(p:fA)=>match p with | .b0 z _=>z.length<=37 | .b1 ..=>True | .b2 z A _=>z.length<=37/\0<=A/\A<(z.length:Int)) (fun(p:fA)=>match p with | .b0 ..=>(0,0,1)|_=>(0,0,0)) ?_ _ ?_,
  fun q F G=>BG (fun(p:Xa)=>match p with | .b0 z=>z.length<=65536/\CU z | .b1 ..=>True | .b2 z _ _ _ _=>2<=z.length/\z.length<=65536/\CU z) (fun(p:Xa)=>match p with | .b0 ..=>(0,0,1)|_=>(0,0,0)) ?_ _ ?_,
  fun q p1 F G=>BG (fun(p:Yy)=>match p with | .b0 z A=>z.length<=100000/\A.length<=100000) (fun(p:Yy)=>(0,0,0)) ?_ _ ?_,
  fun q=>BG (fun(p:YB)=>True) (fun(p:YB)=>(0,0,0)) ?_ _ ?_,
  fun q p1 p2 F=>BG (fun(p:bH)=>match p with | .b0 z _ _=>Gv z | .b1 _ A _=>Gv A | .b2 _ A _=>Gv A | .b3 z _=>Gv z) (fun(p:bH)=>match p with | .b0 ..=>(0,0,3) | .b1 ..=>(0,0,2) | .b2 ..=>(0,0,1) | .b3 ..=>(0,0,0)) ?_ _ ?_,
  fun q p1 p2 F G M N O=>BG (fun(p:bY)=>match p with | .b0 z A D=>0<=A/\0<=D/\D<=8/\A+D<=(z.length:Int)/\z.length<=1000000 | .b1 z A D C=>0<=A /\ -1<=C/\C<=7/\A+C<(z.length:Int)/\z.length<=1000000/\CB D) (fun(p:bY)=>match p with | .b0 ..=>(1,0,0) | .b1 _ _ _ C=>(0,(C+1).toNat,0)) ?_ _ ?_,
  fun q p1 F=>BG (fun(p:Yb)=>match p with | .b0 z _=>z.length<=1 | .b1 z _ D C=>z.length<=1/\D.length<=1/\0<=C/\C<=(z.length:Int)/\(D.length:Int)=C) (fun(p:Yb)=>match p with | .b0 ..=>(1,0,0) | .b1 z _ _ C=>(0,((z.length:Int) - C).toNat,0)) ?_ _ ?_,
  fun q p1=>BG (fun(p:aB)=>True) (fun(p:aB)=>(0,0,0)) ?_ _ ?_⟩
 all_goals try (intro p hp;cases p)
 all_goals
  try dsimp only at hp
  try exact False.elim hp
  try have J:=hp
  try dsimp only[BO,DJ,BK,DW,CG,Ef,Em,EN]at J
  try (repeat with_reducible (have Q:=And.left hp;replace hp:=And.right hp))
  try simp only[Zd2,Zbn,Za0,Zdu,Z9A,Zbv,Zb3,Zb6,ZcM,ZaF,ZbA]
  try dsimp only
  repeat' first|(refine EM ?_;dsimp only;try simp(disch:=omega) only[Bo,Bh,List.nil_append,List.drop_zero])|(refine EG (fun h=>?_) (fun h=>?_)<;>(try simp only[Fg,reduceCtorEq]at h;try simp(disch:=omega) only[Bo]at h))|refine Dw ?_ ?_|refine Gq ?_|refine Z3m ?_ fun v I=>?_|refine Qp ?_ fun v I=>?_|refine Zdz ?_ fun v I=>?_|with_reducible apply And.intro|rfl|assumption|exact True.intro|omega|exact decide_eq_true (GM _).1|exact GI (by assumption) (by omega)|exact Gp (by assumption) (by omega)|(refine FV.2 ?_;first|omega|grind)|(apply GX;first|omega|(simp only[Bh];omega))|(simp only[ED,Bh,Cf,maxLen_eq,kL,kA]<;>omega)|(simp(disch:=omega) only[Bo,decide_eq_true_eq,bne_iff_ne,ne_eq];(repeat' split)<;>omega)|(simp[D8,Ez];done)|grind|(simp only[ED,Bh,Cf,maxLen_eq,kL,kA]<;>grind)|grind [Di]
def Z2y:=NS.1
def Zby:=NS.2.1
def Z1n:=NS.2.2.1
def ZAe:=NS.2.2.2.1
def ZqI:=NS.2.2.2.2.1
def ZwX:=NS.2.2.2.2.2.1
def ZtS:=NS.2.2.2.2.2.2.1
def Zbs:=NS.2.2.2.2.2.2.2.1
def Z2A:=NS.2.2.2.2.2.2.2.2.1
def Zar:=NS.2.2.2.2.2.2.2.2.2.1
def ZvF:=NS.2.2.2.2.2.2.2.2.2.2
theorem Z0O:∀(A:Int),0<=A->A<=63->∃r,Ro A=some r/\0<r:=by
 refine fun A Q F=>BG (fun(p:YO)=>match p with | .b0 q=>0<=q/\q<=63 | .b1 q I z=>0<=z/\q<=63/\z<=q/\I=2 ^ z.toNat) (fun(p:YO)=>match p with | .b0 ..=>(1,0,0) | .b1 q _ z=>(0,(q - z).toNat,0)) ?_ _ ?_
 all_goals try (intro p hp;cases p)
 case' b1=>
  dsimp only at hp;have D:=hp
  try dsimp only[BO,DJ,BK,DW,CG,Ef,Em,EN]at D
  simp only[U7];obtain⟨F,O,S,G⟩:=hp;refine EG (fun h=>?_) (fun h=>?_)
  ·simp only[decide_eq_true_eq]at h;refine EM ?_;dsimp only;obtain⟨n,rfl⟩:=Int.eq_ofNat_of_zero_le F;rw[Bo (by omega) (by omega)];refine⟨⟨by omega,O,by omega,?_⟩,?_⟩
   ·subst G;have Y:n<63:=by omega
    have J:((n:Int)+1).toNat=n+1:=by omega
    have M:((n:Int)).toNat=n:=by omega
    have C:(2:Int) ^ n*2<18446744073709551616:=by
     have:2 ^ (n+1)<2 ^ 64:=Nat.pow_lt_pow_right (by decide) (by omega);have N : ((2 ^ (n+1):Nat):Int)<((2 ^ 64:Nat):Int):=by exact_mod_cast this
     simpa[Int.pow_succ]using N
    rw[J,M,IntKind.wrap_u64,Int.emod_eq_of_lt (Int.mul_nonneg (Int.pow_nonneg (by decide)) (by decide)) C,Int.pow_succ]
   ·refine FV.2 ?_;omega
  ·refine EM ?_;dsimp only;subst G;exact Int.pow_pos (by decide)
 all_goals
  try dsimp only at hp
  try exact False.elim hp
  try have D:=hp
  try dsimp only[BO,DJ,BK,DW,CG,Ef,Em,EN]at D
  try (repeat with_reducible (have hq:=And.left hp;replace hp:=And.right hp))
  try simp only[U7]
  try dsimp only
  repeat' first|(refine EM ?_;dsimp only;try simp(disch:=omega) only[Bo,Bh,List.nil_append,List.drop_zero])|(refine EG (fun h=>?_) (fun h=>?_)<;>(try simp only[Fg,reduceCtorEq]at h;try simp(disch:=omega) only[Bo]at h))|refine Dw ?_ ?_|refine Gq ?_|with_reducible apply And.intro|rfl|assumption|exact True.intro|omega|exact decide_eq_true (GM _).1|exact GI (by assumption) (by omega)|exact Gp (by assumption) (by omega)|(refine FV.2 ?_;first|omega|grind)|(apply GX;first|omega|(simp only[Bh];omega))|(simp only[ED,Bh,Cf,maxLen_eq,kL,kA]<;>omega)|(simp(disch:=omega) only[Bo,decide_eq_true_eq,bne_iff_ne,ne_eq];(repeat' split)<;>omega)|(simp[D8,Ez];done)|grind|(simp only[ED,Bh,Cf,maxLen_eq,kL,kA]<;>grind)|grind [Di]
theorem Zz4:∀(q p1:Int),∃r,Uw q p1=some r/\True:=by
 refine fun q p1=>BG (fun(p:bM)=>True) (fun(p:bM)=>match p with | .b0 ..=>(0,0,1) | .b1 ..=>(0,0,0)) ?_ _ ?_
 all_goals try (intro p hp;cases p)
 case' b0 a0 a1=>
  have hb : -64<Int.tmod (AP (AP (a1.tmod 64+64)*11)) 64/\Int.tmod (AP (AP (a1.tmod 64+64)*11)) 64<64:=tm_bd _ 64 (by omega)
 all_goals
  try dsimp only at hp
  try exact False.elim hp
  try have z:=hp
  try dsimp only[BO,DJ,BK,DW,CG,Ef,Em,EN]at z
  try (repeat with_reducible (have A:=And.left hp;replace hp:=And.right hp))
  try simp only[dM]
  try dsimp only
  repeat' first|(refine EM ?_;dsimp only;try simp(disch:=omega) only[Bo,Bh,List.nil_append,List.drop_zero])|(refine EG (fun h=>?_) (fun h=>?_)<;>(try simp only[Fg,reduceCtorEq]at h;try simp(disch:=omega) only[Bo]at h))|refine Dw ?_ ?_|refine Gq ?_|with_reducible apply And.intro|rfl|assumption|exact True.intro|omega|exact decide_eq_true (GM _).1|exact GI (by assumption) (by omega)|exact Gp (by assumption) (by omega)|(refine FV.2 ?_;first|omega|grind)|(apply GX;first|omega|(simp only[Bh];omega))|(simp only[ED,Bh,Cf,maxLen_eq,kL,kA]<;>omega)|(simp(disch:=omega) only[Bo,decide_eq_true_eq,bne_iff_ne,ne_eq];(repeat' split)<;>omega)|(simp[D8,Ez];done)|grind|(simp only[ED,Bh,Cf,maxLen_eq,kL,kA]<;>grind)|grind [Di]
theorem Ku:(∀(q:DL),∃r,Ws q=some r/\True) /\
  (∀(q p1:Int),∃r,Uu q p1=some r/\True) /\
  (∀(q:Int),∃r,Z14 q=some r/\True) /\
  (∀(q:DL),∃r,Z0B q=some r/\True) /\
  (∀(q:DL),∃r,Z1V q=some r/\True) /\
  (∀(k:Int) (q:A8),BO k q->0<=k->k<=1000000->∃r,nZ q=some r/\True) /\
  (∀(q p1:Int),∃r,Xv q p1=some r/\True) /\
  (∀(q:AL),Bj q->∃r,o8 q=some r/\Bj r) /\
  (∀(q:DL),∃r,lF q=some r/\r.length=9/\CU r) /\
  (∀(q:BD),∃r,Nw q=some r/\((r=0->Di q.SN/\Di q.Dp/\Di q.MD/\1<=q.Ak.Ba/\q.Ak.Ba<=3/\(1<=q.Ak.Payload.length\/q.Ak.Ba=1)/\q.Ak.Payload.length<=255))) /\
  (∀(q:BQ),DJ q->∃r,aP q=some r/\DJ r.1/\r.1.Open=true/\CG r.2.Ak) /\
  (∀(q p1 p2:Int),∃r,oL q p1 p2=some r/\True) /\
  (∀(q:Int) (p1 p2:List Int),p1.length<=200000->p2.length<=200000->∃r,oD q p1 p2=some r/\r.q0.length<=400100) /\
  (∀(q:Int) (p1:List Int),p1.length<=1000000->∃r,dF q p1=some r/\True):=by
 refine⟨fun q=>BG (fun(p:Wv)=>True) (fun(p:Wv)=>match p with | .b0 ..=>(0,0,1) | .b1 ..=>(0,0,0)) ?_ _ ?_,
  fun q p1=>BG (fun(p:dH)=>True) (fun(p:dH)=>(0,0,0)) ?_ _ ?_,
  fun q=>BG (fun(p:YJ)=>True) (fun(p:YJ)=>(0,0,0)) ?_ _ ?_,
  fun q=>BG (fun(p:Xk)=>True) (fun(p:Xk)=>(0,0,0)) ?_ _ ?_,
  fun q=>BG (fun(p:aX)=>True) (fun(p:aX)=>(0,0,0)) ?_ _ ?_,
  fun k q G J N=>BG (fun(p:YM)=>match p with | .b0 z=>BO k z) (fun(p:YM)=>(0,0,0)) ?_ _ ?_,
  fun q p1=>BG (fun(p:Xz)=>match p with | .b0 ..=>True | .b1 _ _ A=>0<=A/\A<=3) (fun(p:Xz)=>match p with | .b0 ..=>(1,0,0) | .b1 _ _ A=>(0,(3 - A).toNat,0)) ?_ _ ?_,
  fun q G=>BG (fun(p:aC)=>match p with | .b0 z=>Bj z | .b1 z _ _=>Bj z | .b2 z _ _=>Bj z | .b3 z _ _=>Bj z | .b4 z _ _=>Bj z | .b5 z _ _=>Bj z | .b6 z _ _=>Bj z | .b7 z _ _=>Bj z | .b8 z _ _=>Bj z | .b9 z _ _=>Bj z) (fun(p:aC)=>match p with | .b0 ..=>(0,0,9) | .b1 ..=>(0,0,8) | .b2 ..=>(0,0,7) | .b3 ..=>(0,0,6) | .b4 ..=>(0,0,5) | .b5 ..=>(0,0,4) | .b6 ..=>(0,0,3) | .b7 ..=>(0,0,2) | .b8 ..=>(0,0,1) | .b9 ..=>(0,0,0)) ?_ _ ?_,
  fun q=>BG (fun(p:XE)=>True) (fun(p:XE)=>(0,0,0)) ?_ _ ?_,
  fun q=>BG (fun(p:Yk)=>match p with | .b0 z=>z=q | .b1 z=>z=q/\Di z.SN/\Di z.Dp/\Di z.MD) (fun(p:Yk)=>match p with | .b0 ..=>(0,0,1) | .b1 ..=>(0,0,0)) ?_ _ ?_,
  fun q G=>BG (fun(p:bF)=>match p with | .b0 z=>DJ z | .b1 z _ _=>DJ z/\z.Open=true | .b2 _ D _ _ F=>DJ D/\CG F.Ak/\D.Open=true/\D.Empty=false | .b3 _ D _ _ F=>DJ D/\CG F.Ak/\D.Open=true | .b4 z _ _ I=>DJ z/\CG I.Ak/\z.Open=true) (fun(p:bF)=>match p with | .b0 ..=>(0,0,4) | .b1 ..=>(0,0,3) | .b2 ..=>(0,0,2) | .b3 ..=>(0,0,1) | .b4 ..=>(0,0,0)) ?_ _ ?_,
  fun q p1 p2=>BG (fun(p:YF)=>True) (fun(p:YF)=>(0,0,0)) ?_ _ ?_,
  fun q p1 p2 G J=>BG (fun(p:YH)=>match p with | .b0 _ D A=>D.length<=200000/\A.length<=200000) (fun(p:YH)=>(0,0,0)) ?_ _ ?_,
  fun q p1 G=>BG (fun(p:dB)=>match p with | .b0 _ D=>D.length<=1000000 | .b1 z _ A=>0<=A/\A<=(z.length:Int)/\z.length<=1000000 | .b2 z _ A _ F=>0<=A/\A<(z.length:Int)/\z.length<=1000000/\0<=F/\F<=8) (fun(p:dB)=>match p with | .b0 ..=>(2,0,0) | .b1 z _ A=>(1,((z.length:Int) - A).toNat,9) | .b2 z _ A _ F=>(1,((z.length:Int) - A).toNat,(8 - F).toNat)) ?_ _ ?_⟩
 all_goals try (intro p hp;cases p)
 all_goals
  try dsimp only at hp
  try exact False.elim hp
  try have M:=hp
  try dsimp only[BO,DJ,BK,DW,CG,Ef,Em,EN]at M
  try (repeat with_reducible (have O:=And.left hp;replace hp:=And.right hp))
  try simp only[kW,Z2n,ZaT,Z8Z,Zbh,Zah,UY,Gh,Zw,YW,IJ,Z1f,Z0S,Ls]
  try dsimp only
  repeat' first|(refine EM ?_;dsimp only;try simp(disch:=omega) only[Bo,Bh,List.nil_append,List.drop_zero])|(refine EG (fun h=>?_) (fun h=>?_)<;>(try simp only[Fg,reduceCtorEq]at h;try simp(disch:=omega) only[Bo]at h))|refine Dw ?_ ?_|refine Gq ?_|refine Ar (Z93 _ _ _) fun(v:Bool) hm C=>?_|refine Ar (Z0O _ ?_ ?_) fun(v:Int) hm C=>?_|refine Ar (Z8J _ _ _) fun(v:Int) hm C=>?_|refine Ar (Zvu _ ?_) fun(v:Bool) hm C=>?_|refine Ar (Zbx _ _) fun(v:Bool) hm C=>?_|refine Ar (Zmp _) fun(v:Int) hm C=>?_|refine Ar (UW _) fun(v:Be) hm C=>?_|refine Ar (Zd4 _ _ ?_ ?_) fun(v:Ii) hm C=>?_|refine Ar (Zzy _) fun(v:Bool) hm C=>?_|refine Ar (ZjF _) fun(v:Int) hm C=>?_|refine Ar (ZtA) fun(v:Aw) hm C=>?_|refine Ze9 ?_ fun v C=>?_|refine Ar (Zz4 _ _) fun(v:Int) hm C=>?_|refine Ar (Zvq _ _ ?_ ?_) fun(v:Int) hm C=>?_|refine Ar (Z2x _ _ ?_ ?_) fun(v:KU) hm C=>?_|refine Qp ?_ fun v C=>?_|refine Ar (Zvb _ _) fun(v:Int) hm C=>?_|with_reducible apply And.intro|rfl|assumption|exact True.intro|omega|exact decide_eq_true (GM _).1|exact GI (by assumption) (by omega)|exact Gp (by assumption) (by omega)|(refine FV.2 ?_;first|omega|grind)|(apply GX;first|omega|(simp only[Bh];omega))|(simp only[ED,Bh,Cf,maxLen_eq,kL,kA]<;>omega)|(simp(disch:=omega) only[Bo,decide_eq_true_eq,bne_iff_ne,ne_eq];(repeat' split)<;>omega)|(simp[D8,Ez];done)|grind|(simp only[ED,Bh,Cf,maxLen_eq,kL,kA]<;>grind)|grind [Di]
def ZjX:=Ku.1
def Zd9:=Ku.2.1
def Zrl:=Ku.2.2.1
def ZoT:=Ku.2.2.2.1
def Zx8:=Ku.2.2.2.2.1
def Zav:=Ku.2.2.2.2.2.1
def Z9w:=Ku.2.2.2.2.2.2.1
def Zln:=Ku.2.2.2.2.2.2.2.2.1
def oI:=Ku.2.2.2.2.2.2.2.2.2.1
def Z2b:=Ku.2.2.2.2.2.2.2.2.2.2.1
def ZrF:=Ku.2.2.2.2.2.2.2.2.2.2.2.1
def Zu2:=Ku.2.2.2.2.2.2.2.2.2.2.2.2.1
def ZzA:=Ku.2.2.2.2.2.2.2.2.2.2.2.2.2
theorem Jn:(∀(q p1:Int),0<=p1->p1<=1000000->∃r,lQ q p1=some r/\(r.length:Int)=p1/\CU r) /\
  (∀(q:Dv),∃r,Z2h q=some r/\True) /\
  (∀(q p1:Int),∃r,nI q p1=some r/\True) /\
  (∀(q:Dv) (p1:Int),∃r,Z2Q q p1=some r/\True) /\
  (∀(q:Aa) (p1:AL),BK q->Bj p1->∃r,qO q p1=some r/\True) /\
  (∀(q p1:Int),∃r,Z1T q p1=some r/\R16 r) /\
  (∀(k:Int) (q:A8),BO k q->0<=k->k<=1000000->∃r,oG q=some r/\R16 r) /\
  (∀(q p1 p2:Int),∃r,pW q p1 p2=some r/\True) /\
  (∀(q:DL),∃r,ZV q=some r/\True) /\
  (∀(q:Int),∃r,Zn q=some r/\True) /\
  (∀(q:Aa) (p1:Int),BK q->∃r,Z09 q p1=some r/\True) /\
  (∀(q:Aa) (p1:Bool) (p2:Int),BK q->CB p2->∃r,Z0l q p1 p2=some r/\BK r.1/\r.2.length<=2/\FC r.2) /\
  (∀(q:BV),∃r,aW q=some r/\True) /\
  (∀(q:List Int),q.length<=37->Ht q->∃r,Z37 q=some r/\CB r):=by
 refine⟨fun q p1 G J=>BG (fun(p:XI)=>match p with | .b0 _ A=>A=p1/\0<=A/\A<=1000000 | .b1 z A _ D=>z=p1/\z<=1000000/\0<=D/\D<=z/\(A.length:Int)=D/\CU A | .b2 z A _ D _ _ I=>z=p1/\z<=1000000/\0<=D/\D<z/\(A.length:Int)=D/\CU A/\0<=I/\I<=8) (fun(p:XI)=>match p with | .b0 ..=>(2,0,0) | .b1 z _ _ D=>(1,(z - D).toNat,9) | .b2 z _ _ D _ _ I=>(1,(z - D).toNat,(8 - I).toNat)) ?_ _ ?_,
  fun q=>BG (fun(p:Yu)=>True) (fun(p:Yu)=>(0,0,0)) ?_ _ ?_,
  fun q p1=>BG (fun(p:Xp)=>True) (fun(p:Xp)=>(0,0,0)) ?_ _ ?_,
  fun q p1=>BG (fun(p:bQ)=>True) (fun(p:bQ)=>(0,0,0)) ?_ _ ?_,
  fun q p1 G J=>BG (fun(p:bW)=>match p with | .b0 z A=>BK z/\Bj A) (fun(p:bW)=>(0,0,0)) ?_ _ ?_,
  fun q p1=>BG (fun(p:Yz)=>True) (fun(p:Yz)=>(0,0,0)) ?_ _ ?_,
  fun k q G J N=>BG (fun(p:Ym)=>match p with | .b0 z=>BO k z) (fun(p:Ym)=>(0,0,0)) ?_ _ ?_,
  fun q p1 p2=>BG (fun(p:aK)=>True) (fun(p:aK)=>(0,0,0)) ?_ _ ?_,
  fun q=>BG (fun(p:XT)=>True) (fun(p:XT)=>(0,0,0)) ?_ _ ?_,
  fun q=>BG (fun(p:XC)=>True) (fun(p:XC)=>(0,0,0)) ?_ _ ?_,
  fun q p1 G=>BG (fun(p:XO)=>match p with | .b0 z _=>BK z | .b1 _ A=>BK A | .b2 _ A=>BK A) (fun(p:XO)=>match p with | .b0 ..=>(0,0,2) | .b1 ..=>(0,0,1) | .b2 ..=>(0,0,0)) ?_ _ ?_,
  fun q p1 p2 G J=>BG (fun(p:Xf)=>match p with | .b0 z _ F=>BK z/\CB F | .b1 _ A F _=>BK F/\CB A) (fun(p:Xf)=>match p with | .b0 ..=>(0,0,1) | .b1 ..=>(0,0,0)) ?_ _ ?_,
  fun q=>BG (fun(p:aJ)=>True) (fun(p:aJ)=>(0,0,0)) ?_ _ ?_,
  fun q G J=>BG (fun(p:eQ)=>match p with | .b0 z=>z.length<=37/\Ht z | .b1 z A F=>z.length<=37/\(Ht z)/\0<=F/\F<=(z.length:Int)/\CB A) (fun(p:eQ)=>match p with | .b0 ..=>(1,0,0) | .b1 z _ F=>(0,((z.length:Int) - F).toNat,0)) ?_ _ ?_⟩
 all_goals try (intro p hp;cases p)
 all_goals
  try dsimp only at hp
  try exact False.elim hp
  try have M:=hp
  try dsimp only[BO,DJ,BK,DW,CG,Ef,Em,EN]at M
  try (repeat with_reducible (have O:=And.left hp;replace hp:=And.right hp))
  try simp only[LD,Zbg,Z9l,ZcR,ZcN,Zba,Zab,ZbO,Z8j,Z77,Z8z,Z97,Zcb,ZdZ]
  try dsimp only
  repeat' first|(refine EM ?_;dsimp only;try simp(disch:=omega) only[Bo,Bh,List.nil_append,List.drop_zero])|(refine EG (fun h=>?_) (fun h=>?_)<;>(try simp only[Fg,reduceCtorEq]at h;try simp(disch:=omega) only[Bo]at h))|refine Dw ?_ ?_|refine Gq ?_|refine Ar (ZqS _) fun(v:Int) hm C=>?_|refine Ar (ZuV _) fun(v:Int) hm C=>?_|refine Ar (Zbx _ _) fun(v:Bool) hm C=>?_|refine Ar (ZwB _ _) fun(v:Int) hm C=>?_|refine Ar (Zdd _) fun(v:Dv) hm C=>?_|refine Ar (Z9S _) fun(v:Bool) hm C=>?_|refine Ar (ZyX _ _) fun(v:Int) hm C=>?_|refine Ar (Z8J _ _ _) fun(v:Int) hm C=>?_|refine Ar (UW _) fun(v:Be) hm C=>?_|refine Ar (Zlv _) fun(v:Int) hm C=>?_|refine Ar (ZtF _ _ ?_) fun(v:Bool) hm C=>?_|refine Ar (Z2y _) fun(v:(List AL)) hm C=>?_|refine Ar (Z1n _) fun(v:Int) hm C=>?_|refine Ar (Z0O _ ?_ ?_) fun(v:Int) hm C=>?_|refine ZeP ?_ fun v C=>?_|with_reducible apply And.intro|rfl|assumption|exact True.intro|omega|exact decide_eq_true (GM _).1|exact GI (by assumption) (by omega)|exact Gp (by assumption) (by omega)|(refine FV.2 ?_;first|omega|grind)|(apply GX;first|omega|(simp only[Bh];omega))|(simp only[ED,Bh,Cf,maxLen_eq,kL,kA]<;>omega)|(simp(disch:=omega) only[Bo,decide_eq_true_eq,bne_iff_ne,ne_eq];(repeat' split)<;>omega)|(simp[D8,Ez];done)|grind|(simp only[ED,Bh,Cf,maxLen_eq,kL,kA]<;>grind)|grind [Di]
def ZlE:=Jn.1
def ZvL:=Jn.2.1
def Zo8:=Jn.2.2.1
def Zzo:=Jn.2.2.2.1
def ZyV:=Jn.2.2.2.2.1
def Zwr:=Jn.2.2.2.2.2.1
def ZsL:=Jn.2.2.2.2.2.2.1
def ZuB:=Jn.2.2.2.2.2.2.2.1
def ZnE:=Jn.2.2.2.2.2.2.2.2.1
def Zls:=Jn.2.2.2.2.2.2.2.2.2.1
def ZmY:=Jn.2.2.2.2.2.2.2.2.2.2.1
def ZpJ:=Jn.2.2.2.2.2.2.2.2.2.2.2.1
def Zcm:=Jn.2.2.2.2.2.2.2.2.2.2.2.2.1
def ZAS:=Jn.2.2.2.2.2.2.2.2.2.2.2.2.2
theorem Jk:(∀(z:Int),∃r,Uk z=some r/\r.length<=37/\Ht r) /\
  (∀(z:Int) (p1:DL),∃r,Z0Y z p1=some r/\True) /\
  (∀(z:AL),Bj z->∃r,QU z=some r/\(r.1.length<=60/\CU r.1/\(r.2=0->1<=r.1.length))) /\
  (∀(z:BQ) (p1:Aw),DJ z->CG p1->∃r,YL z p1=some r/\DJ r.1) /\
  (∀(z p1:Int),∃r,Q4 z p1=some r/\CB r) /\
  (∀(z:BD),CG z.Ak->∃r,mW z=some r/\r.1.length<=257/\CU r.1) /\
  (∀(z:Int) (p1:List Int),p1.length<=100000->CU p1->∃r,Xo z p1=some r/\r.length=p1.length+3/\CU r) /\
  (∀(z:Int) (p1:List Int),p1.length<=100000->∃r,Yc z p1=some r/\r.q0.length=p1.length/\CU r.q0) /\
  (∀(z:List BP) (p1:Int),(z.length<=1/\FT z)->∃r,Z2J z p1=some r/\r.1.length<=1/\FT r.1/\r.2.length<=1/\FT r.2) /\
  (∀(k:Int) (z:A8) (p1:BP),BO k z->Kw p1->0<=k->k<=1000000->∃r,Z0W z p1=some r/\BO k r) /\
  (∀(z:Int) (p1:BP),Kw p1->∃r,Z0K z p1=some r/\True) /\
  (∀(z:Aa) (p1:Int),BK z->∃r,Z0c z p1=some r/\True) /\
  (∀(z:BV),∃r,Z2L z=some r/\True) /\
  (∀(z:Int) (p1:List Int),p1.length<=65536->CU p1->∃r,Z0M z p1=some r/\r.1.length<=65536/\CU r.1):=by
 refine⟨fun z=>BG (fun(p:aS)=>match p with | .b0 ..=>True | .b1 _ A C=>0<=C/\C<=37/\(A.length:Int)<=C/\Ht A | .b2 _ A C=>0<=C/\C<=36/\(A.length:Int)<=C+1/\Ht A) (fun(p:aS)=>match p with | .b0 ..=>(1,0,0) | .b1 _ _ C=>(0,(37 - C).toNat,1) | .b2 _ _ C=>(0,(37 - C).toNat,0)) ?_ _ ?_,
  fun z p1=>BG (fun(p:YR)=>True) (fun(p:YR)=>(0,0,0)) ?_ _ ?_,
  fun z I=>BG (fun(p:Xn)=>match p with | .b0 q=>Bj q | .b1 q A _=>Bj A/\1<=q.length/\q.length<=10/\CU q | .b2 q A _=>Bj A/\1<=q.length/\q.length<=15/\CU q | .b3 q A _=>Bj A/\1<=q.length/\q.length<=17/\CU q | .b4 q A _=>Bj A/\1<=q.length/\q.length<=18/\CU q | .b5 q A _=>Bj A/\1<=q.length/\q.length<=19/\CU q | .b6 q A _=>Bj A/\1<=q.length/\q.length<=27/\CU q | .b7 q A _=>Bj A/\1<=q.length/\q.length<=35/\CU q | .b8 q A _=>Bj A/\1<=q.length/\q.length<=43/\CU q | .b9 q A _=>Bj A/\1<=q.length/\q.length<=44/\CU q) (fun(p:Xn)=>match p with | .b0 ..=>(0,0,9) | .b1 ..=>(0,0,8) | .b2 ..=>(0,0,7) | .b3 ..=>(0,0,6) | .b4 ..=>(0,0,5) | .b5 ..=>(0,0,4) | .b6 ..=>(0,0,3) | .b7 ..=>(0,0,2) | .b8 ..=>(0,0,1) | .b9 ..=>(0,0,0)) ?_ _ ?_,
  fun z p1 I J=>BG (fun(p:Y3)=>match p with | .b0 q A=>DJ q/\CG A | .b1 q A _=>DJ q/\CG A/\Ef A) (fun(p:Y3)=>match p with | .b0 ..=>(0,0,1) | .b1 ..=>(0,0,0)) ?_ _ ?_,
  fun z p1=>BG (fun(p:dA)=>match p with | .b0 ..=>True | .b1 _ _ _ F=>0<=F/\F<=8) (fun(p:dA)=>match p with | .b0 ..=>(1,0,0) | .b1 _ _ _ F=>(0,(8 - F).toNat,0)) ?_ _ ?_,
  fun z I=>BG (fun(p:Xl)=>match p with | .b0 q=>CG q.Ak) (fun(p:Xl)=>(0,0,0)) ?_ _ ?_,
  fun z p1 I J=>BG (fun(p:Xu)=>match p with | .b0 _ A=>A=p1) (fun(p:Xu)=>(0,0,0)) ?_ _ ?_,
  fun z p1 I=>BG (fun(p:Y6)=>match p with | .b0 _ A=>A=p1 | .b1 q A C F=>q=p1/\q.length<=100000/\A.length=p1.length/\0<=F/\F<=(q.length:Int)/\(C.length:Int)=F/\CU C) (fun(p:Y6)=>match p with | .b0 ..=>(1,0,0) | .b1 q _ _ F=>(0,((q.length:Int) - F).toNat,0)) ?_ _ ?_,
  fun z p1 I=>BG (fun(p:dL)=>match p with | .b0 q _=>q.length<=1/\FT q | .b1 q _ C F G=>q.length<=1/\FT q/\C.length<=1/\FT C/\F.length<=1/\FT F/\0<=G/\G<=(q.length:Int)/\(C.length:Int)+(F.length:Int)<=G | .b2 q _ C F G=>q.length<=1/\FT q/\C.length<=1/\FT C/\F.length<=1/\FT F/\0<=G/\G<(q.length:Int)/\(C.length:Int)+(F.length:Int)<=G+1) (fun(p:dL)=>match p with | .b0 ..=>(1,0,0) | .b1 q _ _ _ G=>(0,((q.length:Int) - G).toNat,1) | .b2 q _ _ _ G=>(0,((q.length:Int) - G).toNat,0)) ?_ _ ?_,
  fun k z p1 I J N O=>BG (fun(p:Ya)=>match p with | .b0 q A=>BO k q/\Kw A | .b1 q A _=>BO k q/\Kw A) (fun(p:Ya)=>match p with | .b0 ..=>(0,0,1) | .b1 ..=>(0,0,0)) ?_ _ ?_,
  fun z p1 I=>BG (fun(p:Yf)=>match p with | .b0 _ A=>Kw A | .b1 _ A=>Kw A) (fun(p:Yf)=>match p with | .b0 ..=>(0,0,1) | .b1 ..=>(0,0,0)) ?_ _ ?_,
  fun z p1 I=>BG (fun(p:XU)=>match p with | .b0 q _=>BK q) (fun(p:XU)=>(0,0,0)) ?_ _ ?_,
  fun z=>BG (fun(p:cO)=>True) (fun(p:cO)=>(0,0,0)) ?_ _ ?_,
  fun z p1 I J=>BG (fun(p:YN)=>match p with | .b0 _ A=>A.length<=65536/\CU A) (fun(p:YN)=>(0,0,0)) ?_ _ ?_⟩
 all_goals try (intro p hp;cases p)
 all_goals
  try dsimp only at hp
  try exact False.elim hp
  try have M:=hp
  try dsimp only[BO,DJ,BK,DW,CG,Ef,Em,EN]at M
  try (repeat with_reducible (have Q:=And.left hp;replace hp:=And.right hp))
  try simp only[PE,ZaM,HY,U9,SC,Z0q,Z0p,U6,ZcE,ZaV,ZaN,Z8a,Zcy,ZaD]
  try dsimp only
  repeat' first|(refine EM ?_;dsimp only;try simp(disch:=omega) only[Bo,Bh,List.nil_append,List.drop_zero])|(refine EG (fun h=>?_) (fun h=>?_)<;>(try simp only[Fg,reduceCtorEq]at h;try simp(disch:=omega) only[Bo]at h))|refine Dw ?_ ?_|refine Gq ?_|refine Ar (Zd9 _ _) fun(v:Bool) hm D=>?_|refine Ar (Zrl _) fun(v:Int) hm D=>?_|refine Ar (ZoT _) fun(v:Int) hm D=>?_|refine Ar (Zx8 _) fun(v:Int) hm D=>?_|refine Ar (Z11 _ ?_) fun(v:Int) hm D=>?_|refine Ar (UW _) fun(v:Be) hm D=>?_|refine Ar (Zln _) fun(v:(List Int)) hm D=>?_|refine Ar (Zd4 _ _ ?_ ?_) fun(v:Ii) hm D=>?_|refine Ar (Z8c _) fun(v:Bool) hm D=>?_|refine Ar (oI _) fun(v:Int) hm D=>?_|refine Ar (ZrF _ _ _) fun(v:Int) hm D=>?_|refine Ar (ZzA _ _ ?_) fun(v:Int) hm D=>?_|refine Ar (ZuE _) fun(v:(List Int)) hm D=>?_|refine Ar (ZlE _ _ ?_ ?_) fun(v:(List Int)) hm D=>?_|refine Qp ?_ fun v D=>?_|refine Ar (Zo8 _ _) fun(v:Bool) hm D=>?_|refine Z3d ?_ fun v D=>?_|refine Ar (Zzo _ _) fun(v:Dv) hm D=>?_|refine Ar (ZuB _ _ _) fun(v:Bool) hm D=>?_|refine Ar (Z1n _) fun(v:Int) hm D=>?_|refine Ar (Zcm _) fun(v:Int) hm D=>?_|with_reducible apply And.intro|rfl|assumption|exact True.intro|omega|exact decide_eq_true (GM _).1|exact GI (by assumption) (by omega)|exact Gp (by assumption) (by omega)|(refine FV.2 ?_;first|omega|grind)|(apply GX;first|omega|(simp only[Bh];omega))|(simp only[ED,Bh,Cf,maxLen_eq,kL,kA]<;>omega)|(simp(disch:=omega) only[Bo,decide_eq_true_eq,bne_iff_ne,ne_eq];(repeat' split)<;>omega)|(simp[D8,Ez];done)|grind|(simp only[ED,Bh,Cf,maxLen_eq,kL,kA]<;>grind)|grind [Di]
def ZbX:=Jk.1
def ZqW:=Jk.2.1
def Zo7:=Jk.2.2.1
def ZtM:=Jk.2.2.2.1
def Zz8:=Jk.2.2.2.2.1
def Z9J:=Jk.2.2.2.2.2.1
def Z9B:=Jk.2.2.2.2.2.2.1
def Zr1:=Jk.2.2.2.2.2.2.2.1
def Zxo:=Jk.2.2.2.2.2.2.2.2.1
def Zsz:=Jk.2.2.2.2.2.2.2.2.2.1
def Zs0:=Jk.2.2.2.2.2.2.2.2.2.2.1
def ZmU:=Jk.2.2.2.2.2.2.2.2.2.2.2.1
def ZzP:=Jk.2.2.2.2.2.2.2.2.2.2.2.2.1
def Zrg:=Jk.2.2.2.2.2.2.2.2.2.2.2.2.2
theorem Qj:(∀(A:List BV),A.length<=37->∃r,Z1i A=some r/\r.length<=37) /\
  (∀(A:List Int) (p1:Int),0<=p1->p1+9<=(A.length:Int)->A.length<=1000000->∃r,Zf A p1=some r/\True) /\
  (∀(A:Aa) (p1:AL),BK A->Bj p1->∃r,Z1K A p1=some r/\BK r.1/\r.2.length<=1) /\
  (∀(A:Aa) (p1:AL) (p2:Int),BK A->Bj p1->∃r,zF A p1 p2=some r/\BK r.1/\r.2.1.length<=8/\FC r.2.1/\r.2.2.length<=1) /\
  (∀(A:Aa) (p1:AL),BK A->Bj p1->∃r,yM A p1=some r/\BK r.1/\r.2.1.length<=8/\FC r.2.1/\r.2.2.length<=1) /\
  (∀(A:Aa) (p1:AL) (p2:Int),BK A->Bj p1->∃r,yJ A p1 p2=some r/\BK r.1/\r.2.1.length<=8/\FC r.2.1/\r.2.2.length<=1) /\
  (∀(A:Aa) (p1:AL),BK A->Bj p1->∃r,yQ A p1=some r/\BK r.1/\r.2.1.length<=8/\FC r.2.1/\r.2.2.length<=1) /\
  (∀(A:Aa) (p1:AL),BK A->Bj p1->∃r,Zg A p1=some r/\BK r.1/\r.2.1.length<=8/\FC r.2.1/\r.2.2.length<=1):=by
 refine⟨fun A D=>BG (fun(p:Yj)=>match p with | .b0 q=>q.length<=37 | .b1 q z C=>q.length<=37/\z.length<=37/\0<=C/\C<=(q.length:Int)/\(z.length:Int)=C) (fun(p:Yj)=>match p with | .b0 ..=>(1,0,0) | .b1 q _ C=>(0,((q.length:Int) - C).toNat,0)) ?_ _ ?_,
  fun A p1 D F J=>BG (fun(p:XA)=>match p with | .b0 q z=>0<=z/\z+9<=(q.length:Int)/\q.length<=1000000) (fun(p:XA)=>(0,0,0)) ?_ _ ?_,
  fun A p1 D F=>BG (fun(p:aY)=>match p with | .b0 q z=>BK q/\Bj z | .b1 q z _=>BK q/\Bj z | .b2 q z _=>BK q/\Bj z | .b3 q _=>BK q) (fun(p:aY)=>match p with | .b0 ..=>(0,0,3) | .b1 ..=>(0,0,2) | .b2 ..=>(0,0,1) | .b3 ..=>(0,0,0)) ?_ _ ?_,
  fun A p1 p2 D F=>BG (fun(p:Wp)=>match p with | .b0 q z _=>BK q/\Bj z | .b1 _ z C _=>BK z/\Bj C | .b2 _ z C _=>BK z/\Bj C | .b3 q z _=>BK q/\Bj z | .b4 _ z C _=>BK z/\Bj C | .b5 q _=>BK q | .b6 q _=>BK q | .b7 _ z C _=>BK z/\Bj C | .b8 _ z _=>BK z) (fun(p:Wp)=>match p with | .b0 ..=>(0,0,4) | .b2 ..=>(0,0,3) | .b3 ..=>(0,0,1) | .b4 ..=>(0,0,2) | .b7 ..=>(0,0,1)|_=>(0,0,0)) ?_ _ ?_,
  fun A p1 D F=>BG (fun(p:WY)=>match p with | .b0 q z=>BK q/\Bj z | .b1 q _=>BK q | .b2 q z _=>BK q/\Bj z | .b3 q z _=>BK q/\Bj z) (fun(p:WY)=>match p with | .b0 ..=>(0,0,2) | .b2 ..=>(0,0,1)|_=>(0,0,0)) ?_ _ ?_,
  fun A p1 p2 D F=>BG (fun(p:Wi)=>match p with | .b0 q z _=>BK q/\Bj z) (fun(p:Wi)=>(0,0,0)) ?_ _ ?_,
  fun A p1 D F=>BG (fun(p:Wh)=>match p with | .b0 q z=>BK q/\Bj z | .b1 q _=>BK q | .b2 q z _=>BK q/\Bj z) (fun(p:Wh)=>match p with | .b0 ..=>(0,0,1)|_=>(0,0,0)) ?_ _ ?_,
  fun A p1 D F=>BG (fun(p:Wy)=>match p with | .b0 q z=>BK q/\Bj z | .b1 q z _=>BK q/\Bj z | .b2 q z _=>BK q/\Bj z | .b3 q _=>BK q | .b4 q _=>BK q) (fun(p:Wy)=>match p with | .b0 ..=>(0,0,2) | .b2 ..=>(0,0,1)|_=>(0,0,0)) ?_ _ ?_⟩
 all_goals try (intro p hp;cases p)
 all_goals
  try dsimp only at hp
  try exact False.elim hp
  try have I:=hp
  try dsimp only[BO,DJ,BK,DW,CG,Ef,Em,EN]at I
  try (repeat with_reducible (have M:=And.left hp;replace hp:=And.right hp))
  try simp only[Zaf,Z6O,ZbF,Z6B,Z6g,Z66,Z5Z,Z6P]
  try dsimp only
  repeat' first|(refine EM ?_;dsimp only;try simp(disch:=omega) only[Bo,Bh,List.nil_append,List.drop_zero])|(refine EG (fun h=>?_) (fun h=>?_)<;>(try simp only[Fg,reduceCtorEq]at h;try simp(disch:=omega) only[Bo]at h))|refine Dw ?_ ?_|refine Gq ?_|refine Ar (Z1n _) fun(v:Int) hm G=>?_|refine Z3m ?_ fun v G=>?_|refine Ar (Z2A _ _ _ ?_ ?_ ?_ ?_ ?_) fun(v:Int) hm G=>?_|refine Ar (Z9S _) fun(v:Bool) hm G=>?_|refine Ar (ZvF _ _) fun(v:(List BB)) hm G=>?_|refine Ar (Z2y _) fun(v:(List AL)) hm G=>?_|with_reducible apply And.intro|rfl|assumption|exact True.intro|omega|exact decide_eq_true (GM _).1|exact GI (by assumption) (by omega)|exact Gp (by assumption) (by omega)|(refine FV.2 ?_;first|omega|grind)|(apply GX;first|omega|(simp only[Bh];omega))|(simp only[ED,Bh,Cf,maxLen_eq,kL,kA]<;>omega)|(simp(disch:=omega) only[Bo,decide_eq_true_eq,bne_iff_ne,ne_eq];(repeat' split)<;>omega)|(simp[D8,Ez];done)|grind|(simp only[ED,Bh,Cf,maxLen_eq,kL,kA]<;>grind)|grind [Di]
def Zu1:=Qj.1
def Z6U:=Qj.2.1
def Zv8:=Qj.2.2.1
def Zjh:=Qj.2.2.2.1
def Zj3:=Qj.2.2.2.2.1
def Zip:=Qj.2.2.2.2.2.1
def ZiR:=Qj.2.2.2.2.2.2.1
def Zkm:=Qj.2.2.2.2.2.2.2
theorem Zwn:∀(z:Int),∃r,pU z=some r/\(∃u,ER z=some u/\r=Gx u/\D8 u):=by
 refine fun z=>BG (fun(p:aI)=>match p with | .b0 q=>q=z | .b1 q a1=>D8 a1/\ER z=some a1/\q=1+cond a1.BI 9 0 | .b2 q a1=>D8 a1/\ER z=some a1/\q=1+cond a1.BI 9 0+cond a1.Map 5 0 | .b3 q a1=>D8 a1/\ER z=some a1/\q=1+cond a1.BI 9 0+cond a1.Map 5 0+cond a1.DF 2 0 | .b4 q a1=>D8 a1/\ER z=some a1/\q=1+cond a1.BI 9 0+cond a1.Map 5 0+cond a1.DF 2 0/\(a1.Bd||a1.Version||a1.Length)=true | .b5 q a1=>D8 a1/\ER z=some a1/\q=1+cond a1.BI 9 0+cond a1.Map 5 0+cond a1.DF 2 0+cond (a1.Bd||a1.Version||a1.Length) 1 0 | .b6 q a1=>D8 a1/\ER z=some a1/\q=1+cond a1.BI 9 0+cond a1.Map 5 0+cond a1.DF 2 0+cond (a1.Bd||a1.Version||a1.Length) 1 0+cond a1.DT 1 0 | .b7 q a1=>D8 a1/\ER z=some a1/\q=1+cond a1.BI 9 0+cond a1.Map 5 0+cond a1.DF 2 0+cond (a1.Bd||a1.Version||a1.Length) 1 0+cond a1.DT 1 0/\(a1.Bq||a1.CW)=true | .b8 q a1=>D8 a1/\ER z=some a1/\q=1+cond a1.BI 9 0+cond a1.Map 5 0+cond a1.DF 2 0+cond (a1.Bd||a1.Version||a1.Length) 1 0+cond a1.DT 1 0+cond (a1.Bq||a1.CW) 8 0) (fun(p:aI)=>match p with | .b0 ..=>(0,0,8) | .b1 ..=>(0,0,7) | .b2 ..=>(0,0,6) | .b3 ..=>(0,0,5) | .b4 ..=>(0,0,4) | .b5 ..=>(0,0,3) | .b6 ..=>(0,0,2) | .b7 ..=>(0,0,1) | .b8 ..=>(0,0,0)) ?_ _ ?_
 all_goals try (intro p hp;cases p)
 case' b0=>
  dsimp only at hp;have A:=hp
  try dsimp only[BO,DJ,BK,DW,CG,Ef,Em,EN]at A
  simp only[oV];subst hp;refine Ar (UW _) (fun(v:Be) hm F=>?_);clear A;simp only[D8,Ez,List.mem_cons,List.not_mem_nil,or_false]at F;rcases F with rfl|rfl|rfl|rfl|rfl|rfl|rfl|rfl|rfl|rfl|rfl|rfl|rfl<;>simp only[Gx,cond_true,cond_false,Bool.or_true,Bool.true_or,Bool.or_false,Bool.false_or,Bool.or_self,reduceCtorEq,and_false]at *<;>repeat' first|(refine EG (fun h=>?_) (fun h=>?_)<;>(try simp only[Fg,reduceCtorEq]at h;try simp(disch:=omega) only[Bo]at h))|(refine EM ?_;dsimp only;exact⟨⟨by simp[D8,Ez],hm,by simp only[Gx,cond_true,cond_false,Bool.or_true,Bool.true_or,Bool.or_false,Bool.false_or,Bool.or_self,reduceCtorEq,and_false]at *<;>omega⟩,FV.2 (by omega)⟩)
 case' b1|b2|b3|b4|b5|b6|b7|b8=>
  dsimp only at hp;have A:=hp
  try dsimp only[BO,DJ,BK,DW,CG,Ef,Em,EN]at A
  simp only[oV];have D:=hp.1;have C:=hp.2.1;have G:=hp.2.2;clear hp A;simp only[D8,Ez,List.mem_cons,List.not_mem_nil,or_false]at D;rcases D with rfl|rfl|rfl|rfl|rfl|rfl|rfl|rfl|rfl|rfl|rfl|rfl|rfl<;>simp only[Gx,cond_true,cond_false,Bool.or_true,Bool.true_or,Bool.or_false,Bool.false_or,Bool.or_self,reduceCtorEq,and_false]at *<;>repeat' first|(refine EG (fun h=>?_) (fun h=>?_)<;>(try simp only[Fg,reduceCtorEq]at h;try simp(disch:=omega) only[Bo]at h))|(refine EM ?_;dsimp only;(try simp(disch:=omega) only[Bo]);first|exact⟨⟨by simp[D8,Ez],C,by simp only[Gx,cond_true,cond_false,Bool.or_true,Bool.true_or,Bool.or_false,Bool.false_or,Bool.or_self,reduceCtorEq,and_false]at *<;>first|omega|exact⟨by omega,by first|trivial|rfl⟩⟩,FV.2 (by omega)⟩|exact⟨_,C,by simp only[Gx,cond_true,cond_false,Bool.or_true,Bool.true_or,Bool.or_false,Bool.false_or,Bool.or_self,reduceCtorEq,and_false]at *<;>omega,by simp[D8,Ez]⟩)
 all_goals
  try dsimp only at hp
  try exact False.elim hp
  try have A:=hp
  try dsimp only[BO,DJ,BK,DW,CG,Ef,Em,EN]at A
  try (repeat with_reducible (have I:=And.left hp;replace hp:=And.right hp))
  try simp only[oV]
  try dsimp only
  repeat' first|(refine EM ?_;dsimp only;try simp(disch:=omega) only[Bo,Bh,List.nil_append,List.drop_zero])|(refine EG (fun h=>?_) (fun h=>?_)<;>(try simp only[Fg,reduceCtorEq]at h;try simp(disch:=omega) only[Bo]at h))|refine Dw ?_ ?_|refine Gq ?_|with_reducible apply And.intro|rfl|assumption|exact True.intro|omega|exact decide_eq_true (GM _).1|exact GI (by assumption) (by omega)|exact Gp (by assumption) (by omega)|(refine FV.2 ?_;first|omega|grind)|(apply GX;first|omega|(simp only[Bh];omega))|(simp only[ED,Bh,Cf,maxLen_eq,kL,kA]<;>omega)|(simp(disch:=omega) only[Bo,decide_eq_true_eq,bne_iff_ne,ne_eq];(repeat' split)<;>omega)|(simp[D8,Ez];done)|grind|(simp only[ED,Bh,Cf,maxLen_eq,kL,kA]<;>grind)|grind [Di]
theorem ZwQ:∀(C:BQ) (p1:BD),DJ C->CG p1.Ak->∃r,Z28 C p1=some r/\DJ r.1/\CG r.2.1:=by
 refine fun C p1 G I=>BG (fun(p:Yr)=>match p with | .b0 A q=>DJ A/\CG q.Ak | .b1 A q _ _=>DJ A/\CG q.Ak | .b2 _ q z _ _=>DJ q/\CG z.Ak | .b3 _ q z _ _=>DJ q/\CG z.Ak/\0<q.BA.length | .b4 _ q z _ _=>CG z.Ak/\DJ { q with Open:=false } | .b5 _ q _ _=>DJ q) (fun(p:Yr)=>match p with | .b0 ..=>(0,0,5) | .b1 ..=>(0,0,4) | .b2 ..=>(0,0,1) | .b3 ..=>(0,0,3) | .b4 ..=>(0,0,2) | .b5 ..=>(0,0,0)) ?_ _ ?_
 all_goals try (intro p hp;cases p)
 all_goals
  try dsimp only at hp
  try exact False.elim hp
  try have F:=hp
  try dsimp only[BO,DJ,BK,DW,CG,Ef,Em,EN]at F
  try (repeat with_reducible (have J:=And.left hp;replace hp:=And.right hp))
  try simp only[Zbm]
  try dsimp only
  repeat' first|(refine EM ?_;dsimp only;try simp(disch:=omega) only[Bo,Bh,List.nil_append,List.drop_zero])|(refine EG (fun h=>?_) (fun h=>?_)<;>(try simp only[Fg,reduceCtorEq]at h;try simp(disch:=omega) only[Bo]at h))|refine Dw ?_ ?_|refine Gq ?_|refine Ar (oI _) fun(v:Int) hm D=>?_|refine Ar (Z8c _) fun(v:Bool) hm D=>?_|with_reducible apply And.intro|rfl|assumption|exact True.intro|omega|exact decide_eq_true (GM _).1|exact GI (by assumption) (by omega)|exact Gp (by assumption) (by omega)|(refine FV.2 ?_;first|omega|grind)|(apply GX;first|omega|(simp only[Bh];omega))|(simp only[ED,Bh,Cf,maxLen_eq,kL,kA]<;>omega)|(simp(disch:=omega) only[Bo,decide_eq_true_eq,bne_iff_ne,ne_eq];(repeat' split)<;>omega)|(simp[D8,Ez];done)|grind|(simp only[ED,Bh,Cf,maxLen_eq,kL,kA]<;>grind)|grind [Di]
theorem ZsW:∀(G:AL) (p1:List Int),Bj G->(∃u,ER G.Kind=some u/\(p1.length:Int)=Gx u/\D8 u)->p1.length<=65536->∃r,Z15 G p1=some r/\Bj r:=by
 refine fun G p1 S I O=>BG (fun(p:Yd)=>match p with | .b0 z A=>Bj z/\z.Kind=G.Kind/\A=p1 | .b1 z A C _ q=>Bj C/\D8 q/\(z.length:Int)=Gx q/\A=1+cond q.BI 9 0/\z.length<=65536 | .b2 z A C _ q=>Bj C/\D8 q/\(z.length:Int)=Gx q/\A=1+cond q.BI 9 0+cond q.Map 5 0/\z.length<=65536 | .b3 z A C _ q=>Bj C/\D8 q/\(z.length:Int)=Gx q/\A=1+cond q.BI 9 0+cond q.Map 5 0/\z.length<=65536 | .b4 z A C _ q=>Bj C/\D8 q/\(z.length:Int)=Gx q/\A=1+cond q.BI 9 0+cond q.Map 5 0+cond q.Bd 1 0/\z.length<=65536 | .b5 z A C _ q=>Bj C/\D8 q/\(z.length:Int)=Gx q/\A=1+cond q.BI 9 0+cond q.Map 5 0+cond q.Bd 1 0/\z.length<=65536 | .b6 z A C _ q=>Bj C/\D8 q/\(z.length:Int)=Gx q/\A=1+cond q.BI 9 0+cond q.Map 5 0+cond q.Bd 1 0+cond q.Bq 8 0/\z.length<=65536 | .b7 z A C _ q=>Bj C/\D8 q/\(z.length:Int)=Gx q/\A=1+cond q.BI 9 0+cond q.Map 5 0+cond q.Bd 1 0+cond q.Bq 8 0/\z.length<=65536 | .b8 z A C _ q=>Bj C/\D8 q/\(z.length:Int)=Gx q/\A=1+cond q.BI 9 0+cond q.Map 5 0+cond q.Bd 1 0+cond q.Bq 8 0/\z.length<=65536 | .b9 z A C _ q=>Bj C/\D8 q/\(z.length:Int)=Gx q/\A=1+cond q.BI 9 0+cond q.Map 5 0+cond q.Bd 1 0+cond q.Bq 8 0/\z.length<=65536) (fun(p:Yd)=>match p with | .b0 ..=>(0,0,9) | .b1 ..=>(0,0,8) | .b2 ..=>(0,0,7) | .b3 ..=>(0,0,6) | .b4 ..=>(0,0,5) | .b5 ..=>(0,0,4) | .b6 ..=>(0,0,3) | .b7 ..=>(0,0,2) | .b8 ..=>(0,0,1) | .b9 ..=>(0,0,0)) ?_ _ ?_
 all_goals try (intro p hp;cases p)
 case' b0=>
  dsimp only at hp;have D:=hp
  try dsimp only[BO,DJ,BK,DW,CG,Ef,Em,EN]at D
  simp only[oQ];obtain⟨Q,M,rfl⟩:=hp;obtain⟨u,I,O,J⟩:=I;refine NM (M▸I) ?_;clear D I M;simp only[D8,Ez,List.mem_cons,List.not_mem_nil,or_false]at J;rcases J with rfl|rfl|rfl|rfl|rfl|rfl|rfl|rfl|rfl|rfl|rfl|rfl|rfl<;>simp only[Gx,cond_true,cond_false,Bool.or_true,Bool.true_or,Bool.or_false,Bool.false_or,Bool.or_self,reduceCtorEq,and_false]at *<;>repeat' first|(refine EG (fun h=>?_) (fun h=>?_)<;>(try simp only[Fg,reduceCtorEq]at h;try simp(disch:=omega) only[Bo]at h))|(refine Ar (Z2A _ _ _ (by omega) (by omega) (by omega) (by omega) (by omega)) (fun(v:Int) hm F=>?_))|(refine Qp ?_ (fun v F=>?_))|(refine Ar (Z6U _ _ (by omega) (by omega) (by omega)) (fun(v:DL) hm F=>?_))|(refine EM ?_;dsimp only;(try simp(disch:=omega) only[Bo]);first|exact⟨⟨by grind,by simp[D8,Ez],by first|omega|(simp only[Gx,cond_true,cond_false,Bool.or_true,Bool.true_or,Bool.or_false,Bool.false_or,Bool.or_self,reduceCtorEq,and_false]at *<;>omega),by first|omega|(simp only[Gx,cond_true,cond_false,Bool.or_true,Bool.true_or,Bool.or_false,Bool.false_or,Bool.or_self,reduceCtorEq,and_false]at *<;>omega),by omega⟩,FV.2 (by omega)⟩|grind)
 case' b1|b2|b3|b4|b5|b6|b7|b8|b9=>
  dsimp only at hp;have D:=hp
  try dsimp only[BO,DJ,BK,DW,CG,Ef,Em,EN]at D
  simp only[oQ];have hc:=hp.1;have N:=hp.2.1;have hl:=hp.2.2.1;have Y:=hp.2.2.2.1;have hs:=hp.2.2.2.2;clear hp D;simp only[D8,Ez,List.mem_cons,List.not_mem_nil,or_false]at N;rcases N with rfl|rfl|rfl|rfl|rfl|rfl|rfl|rfl|rfl|rfl|rfl|rfl|rfl<;>simp only[Gx,cond_true,cond_false,Bool.or_true,Bool.true_or,Bool.or_false,Bool.false_or,Bool.or_self,reduceCtorEq,and_false]at *<;>repeat' first|(refine EG (fun h=>?_) (fun h=>?_)<;>(try simp only[Fg,reduceCtorEq]at h;try simp(disch:=omega) only[Bo]at h))|(refine Dw ?_ ?_)|(refine Ar (Z2A _ _ _ (by omega) (by omega) (by omega) (by omega) (by omega)) (fun(v:Int) hm F=>?_))|(refine Qp ?_ (fun v F=>?_))|(refine Ar (Z6U _ _ (by omega) (by omega) (by omega)) (fun(v:DL) hm F=>?_))|(refine EM ?_;dsimp only;(try simp(disch:=omega) only[Bo]);first|exact⟨⟨by grind,by simp[D8,Ez],by first|omega|(simp only[Gx,cond_true,cond_false,Bool.or_true,Bool.true_or,Bool.or_false,Bool.false_or,Bool.or_self,reduceCtorEq,and_false]at *<;>omega),by first|omega|(simp only[Gx,cond_true,cond_false,Bool.or_true,Bool.true_or,Bool.or_false,Bool.false_or,Bool.or_self,reduceCtorEq,and_false]at *<;>omega),by omega⟩,FV.2 (by omega)⟩|grind)
 all_goals
  try dsimp only at hp
  try exact False.elim hp
  try have D:=hp
  try dsimp only[BO,DJ,BK,DW,CG,Ef,Em,EN]at D
  try (repeat with_reducible (have Q:=And.left hp;replace hp:=And.right hp))
  try simp only[oQ]
  try dsimp only
  repeat' first|(refine EM ?_;dsimp only;try simp(disch:=omega) only[Bo,Bh,List.nil_append,List.drop_zero])|(refine EG (fun h=>?_) (fun h=>?_)<;>(try simp only[Fg,reduceCtorEq]at h;try simp(disch:=omega) only[Bo]at h))|refine Dw ?_ ?_|refine Gq ?_|with_reducible apply And.intro|rfl|assumption|exact True.intro|omega|exact decide_eq_true (GM _).1|exact GI (by assumption) (by omega)|exact Gp (by assumption) (by omega)|(refine FV.2 ?_;first|omega|grind)|(apply GX;first|omega|(simp only[Bh];omega))|(simp only[ED,Bh,Cf,maxLen_eq,kL,kA]<;>omega)|(simp(disch:=omega) only[Bo,decide_eq_true_eq,bne_iff_ne,ne_eq];(repeat' split)<;>omega)|(simp[D8,Ez];done)|grind|(simp only[ED,Bh,Cf,maxLen_eq,kL,kA]<;>grind)|grind [Di]
theorem OJ:(∀(C:Int),∃r,Uc C=some r/\0<=r/\r<=37) /\
  (∀(C p1:Int),∃r,dG C p1=some r/\True) /\
  (∀(k:Int) (C:A8),BO k C->0<=k->k<=1000000->∃r,oP C=some r/\BO k r) /\
  (∀(C p1 p2:Int),0<=p2->p2<=100000->∃r,Xd C p1 p2=some r/\(r.length:Int)=p2/\CU r) /\
  (∀(C:Int) (p1:List Int),p1.length<=1000000->∃r,dQ C p1=some r/\CB r) /\
  (∀(C:Aa) (p1:Int),BK C->∃r,Z2R C p1=some r/\BK r.1/\r.2.length<=1/\FT r.2) /\
  (∀(C:List BP) (p1:Int) (p2:BP),(C.length<=1/\FT C)->Kw p2->∃r,qW C p1 p2=some r/\r.1.length<=1/\FT r.1) /\
  (∀(k:Int) (C:A8) (p1:Aw),BO k C->CG p1->0<=k->k<=1000000->∃r,Z1J C p1=some r/\BO k r.1) /\
  (∀(C:List BV) (p1:List Int),C.length<=37->p1.length<=37->∃r,Z1t C p1=some r/\r<(p1.length:Int)) /\
  (∀(C:List Int),C.length<=65536->CU C->∃r,nD C=some r/\(Bj r.1/\(r.2=0->CV r.1)/\(r.2=12->1<=C.length))):=by
 refine⟨fun C=>BG (fun(p:YQ)=>True) (fun(p:YQ)=>(0,0,0)) ?_ _ ?_,
  fun C p1=>BG (fun(p:dV)=>match p with | .b0 ..=>True | .b1 q z=>0<=q/\q<(z.length:Int)) (fun(p:dV)=>match p with | .b0 ..=>(0,0,1) | .b1 ..=>(0,0,0)) ?_ _ ?_,
  fun k C G J N=>BG (fun(p:Ye)=>match p with | .b0 q=>BO k q | .b1 q _ A D _=>FC q/\BO k D/\0<=A/\A<=(D.BC.length:Int)/\(q.length:Int)<=A | .b2 q _ A D _ M=>FC q/\BO k D/\CV M/\0<=A/\A<(D.BC.length:Int)/\(q.length:Int)<=A | .b3 q _ A D _ M=>FC q/\BO k D/\CV M/\0<=A/\A<(D.BC.length:Int)/\(q.length:Int)<=A | .b4 q _ A D _=>FC q/\BO k D/\0<=A/\A<(D.BC.length:Int)/\(q.length:Int)<=A+1) (fun(p:Ye)=>match p with | .b0 ..=>(1,0,0) | .b1 _ _ A D _=>(0,((D.BC.length:Int) - A).toNat,2) | .b2 _ _ A D _ _=>(0,((D.BC.length:Int) - A).toNat,1) | .b3 _ _ A D _ _=>(0,((D.BC.length:Int) - A).toNat,1) | .b4 _ _ A D _=>(0,((D.BC.length:Int) - A).toNat,0)) ?_ _ ?_,
  fun C p1 p2 G J=>BG (fun(p:Xg)=>match p with | .b0 _ _ A=>A=p2/\0<=A/\A<=100000 | .b1 _ z A _ I=>z=p2/\0<=z/\z<=100000/\0<=I/\(A.length:Int)=8*I/\8*I<=z+8/\CU A) (fun(p:Xg)=>match p with | .b0 ..=>(1,0,0) | .b1 _ z _ _ I=>(0,(z+8 - 8*I).toNat,0)) ?_ _ ?_,
  fun C p1 G=>BG (fun(p:dC)=>match p with | .b0 _ z=>z.length<=1000000 | .b1 _ z A D=>0<=D/\D<=(z.length:Int)+8/\z.length<=1000000/\CB A) (fun(p:dC)=>match p with | .b0 ..=>(1,0,0) | .b1 _ z _ D=>(0,((z.length:Int)+8 - D).toNat,0)) ?_ _ ?_,
  fun C p1 G=>BG (fun(p:eG)=>match p with | .b0 q _=>BK q | .b1 q _=>BK q | .b2 q z _=>q.length<=1/\FT q/\BK z | .b3 q z A _=>q.length<=1/\FT q/\BK A/\0<=z/\z<=(q.length:Int) | .b4 q z A _=>q.length<=1/\FT q/\BK A/\0<=z/\z<(q.length:Int) | .b5 q z A _=>q.length<=1/\FT q/\BK A/\0<=z/\z<(q.length:Int)) (fun(p:eG)=>match p with | .b0 ..=>(2,0,0) | .b1 ..=>(1,0,0) | .b2 ..=>(1,0,1) | .b3 q z _ _=>(0,((q.length:Int) - z).toNat,3) | .b4 q z _ _=>(0,((q.length:Int) - z).toNat,2) | .b5 q z _ _=>(0,((q.length:Int) - z).toNat,1)) ?_ _ ?_,
  fun C p1 p2 G J=>BG (fun(p:dJ)=>match p with | .b0 q _ A=>q.length<=1/\FT q/\Kw A) (fun(p:dJ)=>(0,0,0)) ?_ _ ?_,
  fun k C p1 G J N Q=>BG (fun(p:bC)=>match p with | .b0 q z=>BO k q/\CG z | .b1 q z _=>BO k q/\CG z) (fun(p:bC)=>match p with | .b0 ..=>(0,0,1) | .b1 ..=>(0,0,0)) ?_ _ ?_,
  fun C p1 G J=>BG (fun(p:YC)=>match p with | .b0 q z=>q.length<=37/\z=p1/\z.length<=37 | .b1 q z A D=>q.length<=37/\z=p1/\z.length<=37/\A<(z.length:Int)/\0<=D/\D<=(z.length:Int) | .b2 q z A D=>q.length<=37/\z=p1/\z.length<=37/\A<(z.length:Int)/\0<=D/\D<(z.length:Int) | .b3 q z A=>q.length<=37/\z=p1/\z.length<=37/\A<(z.length:Int)/\0<=A) (fun(p:YC)=>match p with | .b0 ..=>(1,0,0) | .b1 _ z _ D=>(0,((z.length:Int) - D).toNat,2) | .b2 _ z _ D=>(0,((z.length:Int) - D).toNat,0) | .b3 _ z A=>(0,((z.length:Int) - A).toNat,1)) ?_ _ ?_,
  fun C G J=>BG (fun(p:Xy)=>match p with | .b0 q=>q=C/\q.length<=65536/\CU q) (fun(p:Xy)=>(0,0,0)) ?_ _ ?_⟩
 all_goals try (intro p hp;cases p)
 all_goals
  try dsimp only at hp
  try exact False.elim hp
  try have O:=hp
  try dsimp only[BO,DJ,BK,DW,CG,Ef,Em,EN]at O
  try (repeat with_reducible (have S:=And.left hp;replace hp:=And.right hp))
  try simp only[Z17,qE,KE,UX,Uy,Zdb,Zdo,Zbq,ZaB,Z9g]
  try dsimp only
  repeat' first|(refine EM ?_;dsimp only;try simp(disch:=omega) only[Bo,Bh,List.nil_append,List.drop_zero])|(refine EG (fun h=>?_) (fun h=>?_)<;>(try simp only[Fg,reduceCtorEq]at h;try simp(disch:=omega) only[Bo]at h))|refine Dw ?_ ?_|refine Gq ?_|refine Ar (ZbX _) fun(v:(List Int)) hm F=>?_|refine ZeP ?_ fun v F=>?_|refine Ar (ZrO _ ?_) fun(v:Bool) hm F=>?_|refine Ar (ZnZ _) fun(v:Bool) hm F=>?_|refine Z3h ?_ fun v F=>?_|refine Ar (Zo7 _ ?_) fun(v:((List Int)×Int)) hm F=>?_|refine Ar (ZtM _ _ ?_ ?_) fun(v:(BQ×Int)) hm F=>?_|refine Ar (Zz8 _ _) fun(v:Int) hm F=>?_|refine Ar (Z2x _ _ ?_ ?_) fun(v:KU) hm F=>?_|refine Ar (Zu3 _ ?_) fun(v:Int) hm F=>?_|refine Ar (Zxo _ _ ?_) fun(v:((List BP)×(List BP))) hm F=>?_|refine Z3d ?_ fun v F=>?_|refine Ar (Zs0 _ _ ?_) fun(v:Int) hm F=>?_|refine Ar (oI _) fun(v:Int) hm F=>?_|refine Ar (ZAe _ _ ?_) fun(v:BV) hm F=>?_|refine Ar (ZzP _) fun(v:Bool) hm F=>?_|refine Ar (Zcm _) fun(v:Int) hm F=>?_|refine Ar (UW _) fun(v:Be) hm F=>?_|refine Ar (Zwn _) fun(v:Int) hm F=>?_|refine Ar (ZsW _ _ ?_ ?_ ?_) fun(v:AL) hm F=>?_|refine Ar (Z11 _ ?_) fun(v:Int) hm F=>?_|refine Qp ?_ fun v F=>?_|(exact ZAA (by assumption) (by assumption))|with_reducible apply And.intro|rfl|assumption|exact True.intro|omega|exact decide_eq_true (GM _).1|exact GI (by assumption) (by omega)|exact Gp (by assumption) (by omega)|(refine FV.2 ?_;first|omega|grind)|(apply GX;first|omega|(simp only[Bh];omega))|(simp only[ED,Bh,Cf,maxLen_eq,kL,kA]<;>omega)|(simp(disch:=omega) only[Bo,decide_eq_true_eq,bne_iff_ne,ne_eq];(repeat' split)<;>omega)|(simp[D8,Ez];done)|grind|(simp only[ED,Bh,Cf,maxLen_eq,kL,kA]<;>grind)|grind [Di]
def ZtR:=OJ.1
def ZxH:=OJ.2.1
def Z12:=OJ.2.2.1
def ZqA:=OJ.2.2.2.1
def ZyL:=OJ.2.2.2.2.1
def ZzH:=OJ.2.2.2.2.2.1
def ZyF:=OJ.2.2.2.2.2.2.1
def ZwF:=OJ.2.2.2.2.2.2.2.1
def ZtX:=OJ.2.2.2.2.2.2.2.2.1
def Z9q:=OJ.2.2.2.2.2.2.2.2.2
theorem P5:(∀(q:Int),∃r,YP q=some r/\True) /\
  (∀(q p1 p2:Int),∃r,qG q p1 p2=some r/\True) /\
  (∀(q p1:Int),∃r,oH q p1=some r/\True) /\
  (∀(q p1:Int) (p2 F:List Int),p2.length<=200000->F.length<=200000->∃r,dR q p1 p2 F=some r/\r.length=4/\CU r) /\
  (∀(q:Aa) (p1:AL) (p2 F:Int),BK q->CV p1->R16 p2->∃r,oU q p1 p2 F=some r/\BK r.1/\CV r.2/\r.1.BJ=q.BJ) /\
  (∀(q:Int) (p1:ByteArray) (p2:List Int),uN U 5 p1=true->(OD U 5 p1).length<=100->p2.length<=1000->∃r,Z0y q p1 p2=some r/\CB r) /\
  (∀(q:List BV) (p1 p2:Int),q.length<=37->∃r,Z0a q p1 p2=some r/\CB r) /\
  (∀(k:Int) (q:A8) (p1:Aw),BO k q->CG p1->0<=k->k<=1000000->∃r,Z10 q p1=some r/\BO k r.1/\r.2.length<=1) /\
  (∀(q:Aa) (p1:AL) (p2 F:Int),BK q->Bj p1->∃r,wY q p1 p2 F=some r/\BK r):=by
 refine⟨fun q=>BG (fun(p:Y5)=>True) (fun(p:Y5)=>(0,0,0)) ?_ _ ?_,
  fun q p1 p2=>BG (fun(p:dS)=>True) (fun(p:dS)=>(0,0,0)) ?_ _ ?_,
  fun q p1=>BG (fun(p:Yo)=>True) (fun(p:Yo)=>(0,0,0)) ?_ _ ?_,
  fun q p1 p2 F I J=>BG (fun(p:dY)=>match p with | .b0 _ _ D G=>D.length<=200000/\G.length<=200000) (fun(p:dY)=>(0,0,0)) ?_ _ ?_,
  fun q p1 p2 F I J M=>BG (fun(p:YV)=>match p with | .b0 z A D _=>BK z/\CV A/\z=q/\R16 D | .b1 z A D _ _=>BK A/\CV D/\(A.BJ=q.BJ/\R16 z/\(D.Kind=0\/D.Kind=1)) | .b2 z A D _ _=>BK A/\CV D/\A.BJ=q.BJ/\z=D.Kind | .b3 z A _ _=>BK z/\CV A/\z.BJ=q.BJ | .b4 z A _ _=>BK z/\CV A/\z.BJ=q.BJ | .b5 z A _ _=>BK z/\CV A/\z.BJ=q.BJ) (fun(p:YV)=>match p with | .b0 ..=>(0,0,4) | .b1 ..=>(0,0,3) | .b3 ..=>(0,0,2) | .b4 ..=>(0,0,0)|_=>(0,0,1)) ?_ _ ?_,
  fun q p1 p2 I J M=>BG (fun(p:Xm)=>match p with | .b0 _ A D=>uN U 5 A=true/\(OD U 5 A).length<=100/\D.length<=1000 | .b1 _ A D G=>A.length<=1000/\0<=G/\G<=(A.length:Int)/\(D.length:Int)<=101+8*G) (fun(p:Xm)=>match p with | .b0 ..=>(1,0,0) | .b1 _ A _ G=>(0,((A.length:Int) - G).toNat,0)) ?_ _ ?_,
  fun q p1 p2 I=>BG (fun(p:XX)=>match p with | .b0 z _ _=>z.length<=37 | .b1 z _ D=>z.length<=37/\D.length<=37/\Ht D | .b2 z=>z.length<=37/\Ht z) (fun(p:XX)=>match p with | .b0 ..=>(1,0,0) | .b1 _ _ D=>(0,D.length,1) | .b2 ..=>(0,0,0)) ?_ _ ?_,
  fun k q p1 I J M O=>BG (fun(p:Y9)=>match p with | .b0 z A=>BO k z/\CG A | .b1 z A _=>BO k z/\CG A | .b2 z A _=>z.length<=1/\BO k A) (fun(p:Y9)=>match p with | .b0 ..=>(0,0,2) | .b1 ..=>(0,0,1) | .b2 ..=>(0,0,0)) ?_ _ ?_,
  fun q p1 p2 F I J=>BG (fun(p:W9)=>match p with | .b0 z A _ _=>BK z/\Bj A | .b1 z _=>BK z) (fun(p:W9)=>match p with | .b0 ..=>(0,0,1) | .b1 ..=>(0,0,0)) ?_ _ ?_⟩
 all_goals try (intro p hp;cases p)
 all_goals
  try dsimp only at hp
  try exact False.elim hp
  try have N:=hp
  try dsimp only[BO,DJ,BK,DW,CG,Ef,Em,EN]at N
  try (repeat with_reducible (have Q:=And.left hp;replace hp:=And.right hp))
  try simp only[Z0Q,Z2q,Z1l,Z2p,ZaO,Z8X,Z8t,Z9Y,Z6c]
  try dsimp only
  repeat' first|(refine EM ?_;dsimp only;try simp(disch:=omega) only[Bo,Bh,List.nil_append,List.drop_zero])|(refine EG (fun h=>?_) (fun h=>?_)<;>(try simp only[Fg,reduceCtorEq]at h;try simp(disch:=omega) only[Bo]at h))|refine Dw ?_ ?_|refine Gq ?_|refine Ar (Z0O _ ?_ ?_) fun(v:Int) hm C=>?_|refine Ar (ZtR _) fun(v:Int) hm C=>?_|refine Ar (Za7 _) fun(v:Int) hm C=>?_|refine Ar (Z9w _ _) fun(v:Int) hm C=>?_|refine Ar (Zd9 _ _) fun(v:Bool) hm C=>?_|refine Ar (ZxH _ _) fun(v:Int) hm C=>?_|refine Ar (Zu2 _ _ _ ?_ ?_) fun(v:Rn) hm C=>?_|refine Ar (ZyL _ _ ?_) fun(v:Int) hm C=>?_|refine Ar (Z2x _ _ ?_ ?_) fun(v:KU) hm C=>?_|refine Ar (Zwr _ _) fun(v:Int) hm C=>?_|refine Ar (Zpp _) fun(v:BP) hm C=>?_|refine Ar (ZyF _ _ _ ?_ ?_) fun(v:((List BP)×Int)) hm C=>?_|refine ZCU ?_ fun v C=>?_|refine Ar (ZbX _) fun(v:(List Int)) hm C=>?_|refine Ar (ZtX _ _ ?_ ?_) fun(v:Int) hm C=>?_|refine Ar (ZAS _ ?_ ?_) fun(v:Int) hm C=>?_|refine Ar (Z1u _) fun(v:Bool) hm C=>?_|refine Ar (Zbs _ _ _ ?_) fun(v:Cb) hm C=>?_|refine Ar (Z9q _ ?_ ?_) fun(v:(AL×Int)) hm C=>?_|refine Ar (Zv8 _ _ ?_ ?_) fun(v:(Aa×(List BB))) hm C=>?_|refine Ar (Zby _ _ _ ?_) fun(v:Cb) hm C=>?_|refine Ar (Zar _ _ ?_) fun(v:(List BB)) hm C=>?_|with_reducible apply And.intro|rfl|assumption|exact True.intro|omega|exact decide_eq_true (GM _).1|exact GI (by assumption) (by omega)|exact Gp (by assumption) (by omega)|(refine FV.2 ?_;first|omega|grind)|(apply GX;first|omega|(simp only[Bh];omega))|(simp only[ED,Bh,Cf,maxLen_eq,kL,kA]<;>omega)|(simp(disch:=omega) only[Bo,decide_eq_true_eq,bne_iff_ne,ne_eq];(repeat' split)<;>omega)|(simp[D8,Ez];done)|grind|(simp only[ED,Bh,Cf,maxLen_eq,kL,kA]<;>grind)|grind [Di]
def Zrc:=P5.1
def Zz1:=P5.2.1
def Zs1:=P5.2.2.1
def Zxl:=P5.2.2.2.1
def ZsU:=P5.2.2.2.2.1
def ZqK:=P5.2.2.2.2.2.1
def ZnV:=P5.2.2.2.2.2.2.1
def Zti:=P5.2.2.2.2.2.2.2.1
def ZhV:=P5.2.2.2.2.2.2.2.2
end Go.Proofs.YtjodhcdmhobmoaaGreatDoor
