/- . -/
import Derived.Test.YtjodhcdmhobmoaaGreatDoorWUn
import Derived.Laws.BitsAllLaws
import Derived.Test.YtjodhcdmhobmoaaGreatDoorWF3
import Derived.Laws.Bits128
set_option linter.unusedVariables false
set_option linter.unusedSimpArgs false
namespace Go.Proofs.YtjodhcdmhobmoaaGreatDoor
open Go Go.Proofs.YtjodhcdmhobmoaaGreatDoor.Le
def Tot {U:DI} {L:Type}:Tr U L->(L->Prop)->Prop
 | .leaf l,Q=>Q l
 | .br c a b,Q=>(c=true->Tot a Q)/\(c=false->Tot b Q)
 | .bind _ o k,Q=>∃x,o=some x/\Tot (k x) Q
 | .chk c a,Q=>c=true/\Tot a Q
 | .fail,_=>False
theorem Zhr {U:DI} {L R:Type} {J:L->Option R} {post:R->Prop}:∀{t:Tr U L},Tot t (fun l=>∃r,J l=some r/\post r)->∃r,t.den J=some r/\post r:=by
 intro t;induction t with
 | leaf l=>intro h;exact h
 | br c a b C D=>
  intro h;cases c with
  | true=>exact C (h.1 rfl)
  | false=>exact D (h.2 rfl)
 | bind t o k A=>
  intro h;obtain⟨x,F,h⟩:=h;obtain⟨r,q,z⟩:=A x h;exact⟨r,by rw[Tr.den,F];exact q,z⟩
 | chk c a A=>
  intro h;obtain⟨r,q,z⟩:=A h.2;exact⟨r,by rw[Tr.den,h.1];exact q,z⟩
 | fail=>intro h;exact h.elim
theorem Tot.mono {U:DI} {L:Type} {Q Q' : L->Prop} (C:∀l,Q l->Q' l):∀{t:Tr U L},Tot t Q->Tot t Q' :=by
 intro t;induction t with
 | leaf l=>exact C l
 | br c a b z A=>exact fun h=>⟨fun e=>z (h.1 e),fun e=>A (h.2 e)⟩
 | bind t o k q=>exact fun⟨x,D,h⟩=>⟨x,D,q x h⟩
 | chk c a q=>exact fun h=>⟨h.1,q h.2⟩
 | fail=>exact fun h=>h
def Lt3 (a b:Nat×Nat×Nat):Prop:=a.1<b.1\/(a.1=b.1/\(a.2.1<b.2.1\/(a.2.1=b.2.1/\a.2.2<b.2.2)))
theorem lt3_wf:WellFounded Lt3:=by
 have key:∀x y z,Acc Lt3 (x,y,z):=by
  intro x;induction x using Nat.strongRecOn with
  | _ x C=>
   intro y;induction y using Nat.strongRecOn with
   | _ y D=>
    intro z;induction z using Nat.strongRecOn with
    | _ z F=>
     refine Acc.intro _ fun q I=>?_;obtain⟨q1,q2,q3⟩:=q;rcases I with h|⟨A,h|⟨G,h⟩⟩
     ·exact C q1 h q2 q3
     ·simp only at A h;subst A;exact D q2 h q3
     ·simp only at A G h;subst A;subst G;exact F q3 h
 exact⟨fun⟨x,y,z⟩=>key x y z⟩
theorem Zib {a b c d e f:Nat} (h:a<d):Lt3 (a,b,c) (d,e,f):=.inl h
theorem Zie {a b c e f:Nat} (h:b<e):Lt3 (a,b,c) (a,e,f):=.inr ⟨rfl,.inl h⟩
theorem ET {a b c d e f:Nat}:Lt3 (a,b,c) (d,e,f)↔a<d\/(a=d/\(b<e\/(b=e/\c<f))):=Iff.rfl
theorem Bd {U:DI} {P R:Type} {T:P->Tr U (R⊕P)} {post:R->Prop} (I:P->Prop) (z:P->Nat×Nat×Nat)
  (h:∀p,I p->Tot (T p) (fun l=>match l with | .inl r=>post r | .inr q=>I q/\Lt3 (z q) (z p))) (p:P) (hp:I p):∃r,AU T p=some r/\post r:=by
 have key:∀x p,z p=x->I p->∃r,AU T p=some r/\post r:=by
  intro x;induction lt3_wf.apply x with
  | intro x _ D=>
   intro p C A;subst C;rw[Aj];refine Zhr ((h p A).mono fun l hl=>?_);cases l with
   | inl r=>exact⟨r,rfl,hl⟩
   | inr q=>exact D _ hl.2 q rfl hl.1
 exact key _ p rfl hp
theorem CG {U:DI} {P R:Type} {T:P->Tr U (R⊕P)} {post:R->Prop} {p:P} (I:Prop) (z:I) (h:I->Tot (T p) (fun l=>match l with | .inl r=>post r | .inr _=>False)):∃r,AU T p=some r/\post r:=by
 rw[Aj];refine Zhr ((h z).mono fun l hl=>?_);cases l with
 | inl r=>exact⟨r,rfl,hl⟩
 | inr q=>exact hl.elim
theorem ZHx {α:Type} {l:List α} {i:Int} {Q:α->Prop} (h:0<=i/\i<(l.length:Int)) (k:∀v,v∈l->Q v):∃v,l[Int.toNat i]? = some v/\Q v:=by
 have q:i.toNat<l.length:=by omega
 exact⟨l[i.toNat],List.getElem?_eq_getElem q,k _ (List.getElem_mem q)⟩
theorem Bv {a:Int} (h : -9223372036854775808<=a) (q : a<=9223372036854775807):AQ a=a:=by
 simp only[AQ,IntKind.wrap,IntKind.signed,IntKind.bits];simp;omega
theorem tm_bd (a:Int) (n:Nat) (h:0<n) : -(n:Int)<Int.tmod a n/\Int.tmod a n<n:=by
 have z:=Int.tmod_lt_of_pos a (show (0:Int)<n by omega);have q:=Int.tmod_lt_of_pos (-a) (show (0:Int)<n by omega);rw[Int.neg_tmod]at q;omega
theorem GN {U:DI} {L:Type} {Q:L->Prop} (h:False):Tot (.fail:Tr U L) Q:=h
theorem D9 {U:DI} {L:Type} {l:L} {Q:L->Prop} (h:Q l):Tot (.leaf l:Tr U L) Q:=h
theorem EN {U:DI} {L:Type} {c:Bool} {a b:Tr U L} {Q:L->Prop} (h:c=true->Tot a Q) (k:c=false->Tot b Q):Tot (.br c a b) Q:=⟨h,k⟩
theorem Dq {U:DI} {L:Type} {c:Bool} {a:Tr U L} {Q:L->Prop} (h:c=true) (k:Tot a Q):Tot (.chk c a) Q:=⟨h,k⟩
theorem Am {U:DI} {L:Type} {t:Nat} {o:Option (U.Ty t)} {k:U.Ty t->Tr U L} {Q:L->Prop} {post:U.Ty t->Prop} (h:∃v,o=some v/\post v) (g:∀v,o=some v->post v->Tot (k v) Q):Tot (.bind t o k) Q:=by
 obtain⟨v,q,z⟩:=h;exact⟨v,q,g v q z⟩
theorem OL {U:DI} {L:Type} {t:Nat} {l:List (U.Ty t)} {i:Int} {k:U.Ty t->Tr U L} {Q:L->Prop} (h:0<=i/\i<(l.length:Int)) (g:∀v,v∈l->Tot (k v) Q):Tot (.bind t (l[Int.toNat i]?) k) Q:=
 ZHx h g
theorem Wv {U:DI} {L:Type} {t:Nat} {o:Option (U.Ty t)} {a:U.Ty t} {k:U.Ty t->Tr U L} {Q:L->Prop} (h:o=some a) (g:Tot (k a) Q):Tot (.bind t o k) Q:=⟨a,h,g⟩
theorem Cb:lim=140737488355328:=rfl
theorem maxLen_eq:maxLen=9223372036854775807:=rfl
end Go.Proofs.YtjodhcdmhobmoaaGreatDoor
namespace Go.Proofs.YtjodhcdmhobmoaaGreatDoor.Na
open Go
def rep (c:Nat):Nat->Nat
 | 0=>0
 | k+1=>256*rep c k+c
theorem iZ (x s c k:Nat) (hs:s<=8) (hc:c<2 ^ (8 - s)):(x / 2 ^ s) &&& rep c (k+1)=256*((x / 256 / 2 ^ s) &&& rep c k)+((x % 256 / 2 ^ s) &&& c):=by
 have q:c<2 ^ 8:=Nat.lt_of_lt_of_le hc (Nat.pow_le_pow_right (by omega) (by omega));have hb:((x % 256 / 2 ^ s) &&& c)<2 ^ 8:=Nat.lt_of_le_of_lt Nat.and_le_right q;refine Nat.eq_of_testBit_eq fun j=>?_;rw[show (256:Nat)=2 ^ 8 from rfl]at *;rw[Nat.testBit_two_pow_mul_add _ hb];simp only[rep];rw[show (256:Nat)=2 ^ 8 from rfl,Nat.testBit_and,Nat.testBit_two_pow_mul_add _ q];split
 ·rename_i A;rw[Nat.testBit_and,Nat.testBit_div_two_pow,Nat.testBit_div_two_pow,Nat.testBit_mod_two_pow]
  by_cases h:c.testBit j=true
  ·have:j<8 - s:=by
    refine Nat.lt_of_not_le fun z=>?_;rw[Nat.testBit_lt_two_pow (Nat.lt_of_lt_of_le hc (Nat.pow_le_pow_right (by omega) z))]at h;cases h
   rw[h,show decide (j+s<8)=true by simp;omega];simp
  ·simp[h]
 ·rename_i A;rw[Nat.testBit_and,Nat.testBit_div_two_pow,Nat.testBit_div_two_pow,Nat.testBit_div_two_pow];rw[show j - 8+s+8=j+s by omega]
def s1 (k x:Nat):Nat:=(x / 2 &&& rep 0x55 k)+(x &&& rep 0x55 k)
def s2 (k x:Nat):Nat:=(x / 4 &&& rep 0x33 k)+(x &&& rep 0x33 k)
def s3 (k x:Nat):Nat:=(x / 16+x) &&& rep 0x0f k
theorem Z3Q (k x:Nat):s1 (k+1) x=256*s1 k (x / 256)+s1 1 (x % 256):=by
 have q:=iZ x 1 0x55 k (by omega) (by decide);have z:=iZ x 0 0x55 k (by omega) (by decide);simp only[Nat.pow_zero,Nat.div_one,Nat.pow_one]at q z;simp only[s1];rw[q,z,show rep 0x55 1=0x55 from rfl];omega
theorem Zhg (k h a:Nat) (D:a<256):s2 (k+1) (256*h+a)=256*s2 k h+s2 1 a:=by
 have q:=iZ (256*h+a) 2 0x33 k (by omega) (by decide);have z:=iZ (256*h+a) 0 0x33 k (by omega) (by decide);have A:(256*h+a) / 256=h:=by omega
 have C:(256*h+a) % 256=a:=by omega
 rw[A,C]at q z;simp only[Nat.pow_zero,Nat.div_one,show 2 ^ 2=4 from rfl]at q z;simp only[s2];rw[q,z,show rep 0x33 1=0x33 from rfl];omega
theorem ZFZ (k h a:Nat) (F:a % 16<=4) (D : a / 16<=4) (G:h % 16<=4):s3 (k+1) (256*h+a)=256*s3 k h+s3 1 a:=by
 have q:=iZ ((256*h+a) / 16+(256*h+a)) 0 0x0f k (by omega) (by decide);simp only[Nat.pow_zero,Nat.div_one]at q;have z:((256*h+a) / 16+(256*h+a)) / 256=h / 16+h:=by omega
 have A:((256*h+a) / 16+(256*h+a)) % 256=(h % 16)*16+(a / 16+a):=by omega
 have C:((h % 16)*16+(a / 16+a)) &&& 15=(a / 16+a) &&& 15:=by
  rw[Nat.and_two_pow_sub_one_eq_mod _ 4,Nat.and_two_pow_sub_one_eq_mod _ 4];omega
 simp only[s3];rw[q,z,A,C,show rep 0x0f 1=0x0f from rfl]
theorem Z4N:∀a<256,s1 1 a<256:=by decide +kernel
theorem Zik:∀a<256,s2 1 (s1 1 a) % 16<=4/\s2 1 (s1 1 a) / 16<=4/\s2 1 (s1 1 a)<256:=by decide +kernel
def bc:Nat->Nat->Nat
 | 0,_=>0
 | k+1,x=>bc k x+x / 2 ^ k % 2
theorem f3_eq:∀a<256,s3 1 (s2 1 (s1 1 a))=bc 8 a:=by decide +kernel
theorem Je (k x:Nat):bc k x<=k:=by
 induction k with
 | zero=>simp[bc]
 | succ k q=>simp only[bc];omega
theorem jQ (a k x:Nat):bc (a+k) x=bc a x+bc k (x / 2 ^ a):=by
 induction k with
 | zero=>simp[bc]
 | succ k q=>
  show bc (a+k) x+x / 2 ^ (a+k) % 2=_;simp only[bc];rw[q,Nat.pow_add,Nat.div_div_eq_div_mul];omega
theorem ZhY (a b x:Nat) (h:a<=b):bc a (x % 2 ^ b)=bc a x:=by
 induction a with
 | zero=>rfl
 | succ k q=>
  simp only[bc];rw[q (by omega)];congr 1;have e:∀y,y / 2 ^ k % 2=(y.testBit k).toNat:=fun y=>by rw[Nat.testBit_eq_decide_div_mod_eq];rcases Nat.mod_two_eq_zero_or_one (y / 2 ^ k) with h|h<;>simp[h]
  rw[e,e,Nat.testBit_mod_two_pow];simp[show k<b by omega]
theorem Zhi (k:Nat):bc k 0=0:=by
 induction k with
 | zero=>rfl
 | succ k q=>simp[bc,q]
def pb:Nat->Nat->Nat
 | 0,_=>0
 | k+1,x=>256*pb k (x / 256)+bc 8 (x % 256)
theorem swar (k x:Nat):s3 k (s2 k (s1 k x))=pb k x/\s2 k (s1 k x) % 16<=4:=by
 induction k generalizing x with
 | zero=>simp[s1,s2,s3,rep,pb]
 | succ k C=>
  have q:x % 256<256:=Nat.mod_lt _ (by omega);obtain⟨z,A⟩:=C (x / 256);obtain⟨b1,b2,b3⟩:=Zik _ q;rw[Z3Q,Zhg _ _ _ (Z4N _ q),ZFZ _ _ _ b1 b2 A,z,f3_eq _ q];exact⟨rfl,by omega⟩
theorem dv (B A b:Nat) (hb:b<B):(b+B*A) / B=A:=by
 rw[Nat.add_mul_div_left _ _ (by omega),Nat.div_eq_of_lt hb];omega
theorem sum8e (I G F D C A z q:Nat) :
  256*(256*(256*(256*(256*(256*(256*(256*0+q)+z)+A)+C)+D)+F)+G)+I=I+256*(256*(256*(256*(256*(256*(256*q+z)+A)+C)+D)+F)+G) /\
  (I+256*(256*(256*(256*(256*(256*(256*q+z)+A)+C)+D)+F)+G))+(256*(256*(256*(256*(256*(256*q+z)+A)+C)+D)+F)+G)=((I+G)+256*(G+F))+65536*((F+D)+256*(D+C)+65536*(C+A)+16777216*(A+z)+4294967296*(z+q)+1099511627776*q) /\
  (((I+G)+256*(G+F))+65536*((F+D)+256*(D+C)+65536*(C+A)+16777216*(A+z)+4294967296*(z+q)+1099511627776*q))+((F+D)+256*(D+C)+65536*(C+A)+16777216*(A+z)+4294967296*(z+q)+1099511627776*q)=((I+G+F+D)+256*(G+F+D+C)+65536*(F+D+C+A)+16777216*(D+C+A+z))+4294967296*((C+A+z+q)+256*(A+z+q)+65536*(z+q)+16777216*q) /\
  (((I+G+F+D)+256*(G+F+D+C)+65536*(F+D+C+A)+16777216*(D+C+A+z))+4294967296*((C+A+z+q)+256*(A+z+q)+65536*(z+q)+16777216*q))+((C+A+z+q)+256*(A+z+q)+65536*(z+q)+16777216*q)=(I+G+F+D+C+A+z+q)+128*(2*(G+F+D+C+A+z+q)+512*(F+D+C+A+z+q)+131072*(D+C+A+z+q)+33554432*((C+A+z+q)+256*(A+z+q)+65536*(z+q)+16777216*q)):=by
 refine⟨?_,?_,?_,?_⟩<;>omega
theorem sum8 (D F G I J M N O:Nat) (S:D<=8) (q:F<=8) (z:G<=8) (A:I<=8) (Y:J<=8) (h5:M<=8) (h6:N<=8) (h7:O<=8) (w t u v:Nat)
  (hw:w=256*(256*(256*(256*(256*(256*(256*(256*0+O)+N)+M)+J)+I)+G)+F)+D) (C:t=w+w / 256) (hu:u=t+t / 65536) (hv:v=u+u / 4294967296) :
  v % 128=D+F+G+I+J+M+N+O/\w<=v/\t<=v/\u<=v/\v<18446744073709551616:=by
 obtain⟨q1,q2,q3,q4⟩:=sum8e D F G I J M N O;rw[q1]at hw;rw[hw,dv 256 _ _ (Nat.lt_of_le_of_lt S (by decide)),q2]at C;rw[C,dv 65536 _ _ (Nat.lt_of_le_of_lt (Nat.add_le_add (Nat.add_le_add S q) (Nat.mul_le_mul_left 256 (Nat.add_le_add q z))) (by decide)),q3]at hu;rw[hu,dv 4294967296 _ _ (Nat.lt_of_le_of_lt (Nat.add_le_add (Nat.add_le_add (Nat.add_le_add (Nat.add_le_add (Nat.add_le_add (Nat.add_le_add S q) z) A) (Nat.mul_le_mul_left 256 (Nat.add_le_add (Nat.add_le_add (Nat.add_le_add q z) A) Y))) (Nat.mul_le_mul_left 65536 (Nat.add_le_add (Nat.add_le_add (Nat.add_le_add z A) Y) h5))) (Nat.mul_le_mul_left 16777216 (Nat.add_le_add (Nat.add_le_add (Nat.add_le_add A Y) h5) h6))) (by decide)),q4]at hv;have a1:w<=t:=by rw[hw,C,<- q2];exact Nat.le_add_right _ _
 have a2:t<=u:=by rw[C,hu,<- q3];exact Nat.le_add_right _ _
 have Q:u<=v:=by rw[hu,hv,<- q4];exact Nat.le_add_right _ _
 refine⟨?_,Nat.le_trans a1 (Nat.le_trans a2 Q),Nat.le_trans a2 Q,Q,?_⟩
 ·have hs:D+F+G+I+J+M+N+O<128:=Nat.lt_of_le_of_lt (Nat.add_le_add (Nat.add_le_add (Nat.add_le_add (Nat.add_le_add (Nat.add_le_add (Nat.add_le_add (Nat.add_le_add S q) z) A) Y) h5) h6) h7) (by decide);rw[hv,Nat.add_mul_mod_self_left,Nat.mod_eq_of_lt hs]
 ·clear a1 a2 Q q1 q2 q3 q4 hw C hu;omega
def popN (x:Nat):Nat:=
 let w:=s3 8 (s2 8 (s1 8 x));let t:=w+w / 256;let u:=t+t / 65536;let v:=u+u / 4294967296
 v % 128
theorem ZEy (x:Nat) (C:x<2 ^ 37):popN x=bc 37 x:=by
 have h:=sum8 (bc 8 (x % 256)) (bc 8 (x / 256 % 256)) (bc 8 (x / 256 / 256 % 256)) (bc 8 (x / 256 / 256 / 256 % 256)) (bc 8 (x / 256 / 256 / 256 / 256 % 256)) (bc 8 (x / 256 / 256 / 256 / 256 / 256 % 256)) (bc 8 (x / 256 / 256 / 256 / 256 / 256 / 256 % 256)) (bc 8 (x / 256 / 256 / 256 / 256 / 256 / 256 / 256 % 256))
  (Je _ _) (Je _ _) (Je _ _) (Je _ _) (Je _ _) (Je _ _) (Je _ _) (Je _ _) (pb 8 x) _ _ _ rfl rfl rfl rfl
 unfold popN;rw[(swar 8 x).1];refine h.1.trans ?_;have z:∀y,bc 8 (y % 256)=bc 8 y:=fun y=>ZhY 8 8 y (Nat.le_refl 8);simp only[z];have A:x / 256 / 256 / 256 / 256 / 256=0:=by omega
 rw[A];simp only[Nat.zero_div,Zhi,Nat.add_zero];rw[show 37=8+(8+(8+(8+5))) from rfl,jQ,jQ,jQ,jQ];have q:bc 8 (x / 256 / 256 / 256 / 256)=bc 5 (x / 256 / 256 / 256 / 256):=by
  rw[show 8=5+3 from rfl,jQ,show x / 256 / 256 / 256 / 256 / 2 ^ 5=0 by omega,Zhi];rfl
 rw[q];simp only[show (2:Nat) ^ 8=256 from rfl];omega
theorem s1_lt (k x:Nat):s1 k x<256 ^ k:=by
 induction k generalizing x with
 | zero=>simp[s1,rep]
 | succ k q=>
  have:=Z4N (x % 256) (Nat.mod_lt _ (by omega));have:=q (x / 256);rw[Z3Q,Nat.pow_succ];omega
theorem s2_le (k x:Nat):255*s2 k (s1 k x)+68<=68*256 ^ k:=by
 induction k generalizing x with
 | zero=>simp[s2,rep]
 | succ k z=>
  have q:x % 256<256:=Nat.mod_lt _ (by omega);obtain⟨b1,b2,b3⟩:=Zik (x % 256) q;have:=z (x / 256);rw[Z3Q,Zhg _ _ _ (Z4N _ q),Nat.pow_succ];omega
theorem ZG5 (x:Nat):let w:=s3 8 (s2 8 (s1 8 x))
  let t:=w+w / 256;let u:=t+t / 65536
  s1 8 x<18446744073709551616/\s2 8 (s1 8 x)+s2 8 (s1 8 x) / 16<18446744073709551616/\w<18446744073709551616/\t<18446744073709551616/\u<18446744073709551616/\u+u / 4294967296<18446744073709551616:=by
 have h:=sum8 (bc 8 (x % 256)) (bc 8 (x / 256 % 256)) (bc 8 (x / 256 / 256 % 256)) (bc 8 (x / 256 / 256 / 256 % 256)) (bc 8 (x / 256 / 256 / 256 / 256 % 256)) (bc 8 (x / 256 / 256 / 256 / 256 / 256 % 256)) (bc 8 (x / 256 / 256 / 256 / 256 / 256 / 256 % 256)) (bc 8 (x / 256 / 256 / 256 / 256 / 256 / 256 / 256 % 256))
  (Je _ _) (Je _ _) (Je _ _) (Je _ _) (Je _ _) (Je _ _) (Je _ _) (Je _ _) (pb 8 x) _ _ _ rfl rfl rfl rfl
 intro w t u;have e:w=pb 8 x:=(swar 8 x).1;rw[<- e]at h;have q2:=s2_le 8 x;refine⟨s1_lt 8 x,?_,Nat.lt_of_le_of_lt h.2.1 h.2.2.2.2,Nat.lt_of_le_of_lt h.2.2.1 h.2.2.2.2,Nat.lt_of_le_of_lt h.2.2.2.1 h.2.2.2.2,h.2.2.2.2⟩;clear h e
 clear_value w t u
 generalize s2 8 (s1 8 x)=y at q2;omega
def Kr (x:Nat):Nat:=((x >>> 0 &&& 257) <<< 7) ||| ((x >>> 1 &&& 257) <<< 6) ||| ((x >>> 2 &&& 257) <<< 5) ||| ((x >>> 3 &&& 257) <<< 4) ||| ((x >>> 4 &&& 257) <<< 3) ||| ((x >>> 5 &&& 257) <<< 2) ||| ((x >>> 6 &&& 257) <<< 1) ||| ((x >>> 7 &&& 257) <<< 0)
theorem ZGZ (a b:Nat):Kr (a ||| b)=Kr a ||| Kr b:=by
 have t:∀i j,((a ||| b) >>> i &&& 257) <<< j=((a >>> i &&& 257) <<< j) ||| ((b >>> i &&& 257) <<< j):=by
  intro i j;rw[Nat.shiftRight_or_distrib,Nat.and_or_distrib_right,Nat.shiftLeft_or_distrib]
 simp only[Kr,t]
 ac_rfl
def rv (k x r:Nat):Nat:=match k with
 | 0=>r
 | k+1=>rv k (x / 2) (2*r+x % 2)
theorem xZ:∀a<256,Kr a=rv 8 a 0/\Kr (256*a)=256*rv 8 a 0/\rv 8 a 0<256:=by decide +kernel
theorem ZGn (x:Nat) (z:x<65536):Kr x=256*rv 8 (x / 256) 0+rv 8 (x % 256) 0:=by
 have hl:=xZ (x % 256) (Nat.mod_lt _ (by omega));have q:=xZ (x / 256) (by omega);have e:x=256*(x / 256) ||| x % 256:=by
  rw[nat_join 8 (256*(x / 256)) (x % 256) (by omega) (by omega)];omega
 conv=>lhs;rw[e]
 rw[ZGZ,q.2.1,hl.1,nat_join 8 _ _ (by omega) (by omega)]
theorem ZIc (x:Nat) (q:x<65536):Kr x<65536:=by
 rw[ZGn x q];have:=(xZ (x % 256) (Nat.mod_lt _ (by omega))).2.2;have:=(xZ (x / 256) (by omega)).2.2;omega
end Go.Proofs.YtjodhcdmhobmoaaGreatDoor.Na
namespace Go.Proofs.YtjodhcdmhobmoaaGreatDoor
open Go Go.Proofs.YtjodhcdmhobmoaaGreatDoor.Le
open Go Go.Proofs.YtjodhcdmhobmoaaGreatDoor.Le Go.Proofs.YtjodhcdmhobmoaaGreatDoor.Na
set_option maxRecDepth 100000
set_option linter.defProp false
set_option maxHeartbeats 40000000
theorem Ox {n:Int} (h : -9223372036854775808<=n) (q : n<=9223372036854775807):AQ n=n:=by
 simp only[AQ,IntKind.wrap,IntKind.signed,IntKind.bits];simp;omega
def cl (z q x:Int):Int:=max z (min x q)
theorem cl1 (q z x:Int) (h:q<=z):(if z<(if q>x then q else x) then z else (if q>x then q else x))=cl q z x:=by unfold cl;split<;>split<;>omega
def Qb (s:Gg):Bool:=decide (s.f_low<=s.VP)&&decide (s.VP<=s.wW)
theorem ZCp (xs:List Gg) (hl:xs.length<1000):∀(k i:Nat),i+k=xs.length->AU Yr (.b1 xs xs.length i)=some ((xs.drop i).all Qb):=by
 intro k;induction k with
 | zero=>
  intro i C;refine(Aj _ _).trans ?_;simp only[Yr,DN];rw[show decide ((i:Int)<(xs.length:Int))=false by simp;omega,List.drop_of_length_le (by omega)];rfl
 | succ k D=>
  intro i C;have A:i<xs.length:=by omega
  refine(Aj _ _).trans ?_;simp only[Yr,DN];rw[show decide ((i:Int)<(xs.length:Int))=true by simp;omega];rw[show decide (0<=(i:Int)/\(i:Int)<(xs.length:Int))=true by simp;omega];simp only[cond_true,Int.toNat_natCast,List.getElem?_eq_getElem A,Option.bind_some];rw[List.drop_eq_getElem_cons A,List.all_cons]
  by_cases q:(xs[i]).VP<(xs[i]).f_low
  ·rw[decide_eq_true q,show Qb xs[i]=false by simp[Qb];omega];rfl
  ·by_cases z:(xs[i]).VP>(xs[i]).wW
   ·rw[decide_eq_false q,decide_eq_true z,show Qb xs[i]=false by simp[Qb];omega];rfl
   ·rw[decide_eq_false q,decide_eq_false z,show Qb xs[i]=true by simp[Qb];omega];simp only[cond_false,Bool.true_and];refine(Aj _ _).trans ?_;simp only[Yr,DN];rw[Ox (by omega) (by omega)];exact D (i+1) (by omega)
theorem Zp3 (xs:List Gg) (hl:xs.length<1000):Z0i xs=some (xs.all Qb):=
 (Aj _ _).trans (ZCp xs hl xs.length 0 (by simp))
theorem Zul (x q z:Int):Oc x q z=some (decide (q<=x)&&decide (x<=z)):=(Aj _ _).trans (by
 simp only[Z1o,DN]
 by_cases h:x>=q
 ·rw[decide_eq_true h];simp
 ·rw[decide_eq_false h];simp)
def inB (x z q:Int):Bool:=decide (z<=x)&&decide (x<=q)
def Hu (u:DR):Int:=
 if !(inB u.FP 1 8&&inB u.FC 0 3200&&inB u.E5 6 3200&&inB u.C9 0 499&&inB u.FY 10 3200) then 5
 else if u.FP>=u.E5 then 11 else if u.FC>u.E5 then 11
 else if (AQ (u.FY*(10000:Int)))<=(AQ ((AQ ((AQ ((2:Int)*(AQ (u.C9+(1:Int)))))*u.E5))*(1250:Int))) then 11 else 0
theorem RG (u:DR):lT u=some (Hu u):=(Aj _ _).trans (by
 simp only[Z6A,DN];rw[Zp3 _ (by simp)];simp only[List.all_cons,List.all_nil,Qb,Bool.and_true,Option.bind_some,List.length_cons,List.length_nil,Hu,inB,Bool.and_assoc];generalize (decide (1<=u.FP)&&_)=b;cases b with
 | false=>rfl
 | true=>
  by_cases q:u.FP>=u.E5
  ·simp[q]
  ·by_cases z:u.FC>u.E5
   ·simp[q,z]
   ·by_cases A:(AQ (u.FY*(10000:Int)))<=(AQ ((AQ ((AQ ((2:Int)*(AQ (u.C9+(1:Int)))))*u.E5))*(1250:Int)))
    ·simp[q,z,A]
    ·simp[q,z,A])
theorem Z8o (u:DR):Ye u=some (Hu u):=(Aj _ _).trans (by
 simp only[Z0d,DN,Zul,Option.bind_some,Hu];rw[show (decide (1<=u.FP)&&decide (u.FP<=8))=inB u.FP 1 8 from rfl];rw[show (decide (0<=u.FC)&&decide (u.FC<=3200))=inB u.FC 0 3200 from rfl];rw[show (decide (6<=u.E5)&&decide (u.E5<=3200))=inB u.E5 6 3200 from rfl];rw[show (decide (0<=u.C9)&&decide (u.C9<=499))=inB u.C9 0 499 from rfl];rw[show (decide (10<=u.FY)&&decide (u.FY<=3200))=inB u.FY 10 3200 from rfl];cases inB u.FP 1 8<;>first|rfl|skip
 cases inB u.FC 0 3200<;>first|rfl|skip
 cases inB u.E5 6 3200<;>first|rfl|skip
 cases inB u.C9 0 499<;>first|rfl|skip
 cases inB u.FY 10 3200<;>first|rfl|skip
 simp only[Bool.not_true,cond_false,Bool.and_true,Bool.false_eq_true,if_false];refine(Aj _ _).trans ?_;simp only[Z0d,DN]
 by_cases q:u.FP>=u.E5
 ·simp[q]
 ·by_cases z:u.FC>u.E5
  ·simp[q,z]
  ·by_cases A:(AQ (u.FY*(10000:Int)))<=(AQ ((AQ ((AQ ((2:Int)*(AQ (u.C9+(1:Int)))))*u.E5))*(1250:Int)))
   ·simp[q,z,A]
   ·simp[q,z,A])
def fresh:List BO:=List.replicate 37 ⟨0,0⟩
theorem ZxP (a:BR):Z2R a=some ((a.Ap.length:Int)==0):=(Aj _ _).trans rfl
def must (l:CW) (b:Bool):Bool:=l.Full||(b||decide (l.EJ>=l.C9))
theorem Z0F (l:CW) (b:Bool):oZ l b=some (must l b):=(Aj _ _).trans (by
 simp only[Z9V,DN,must];cases l.Full<;>cases b<;>simp;cases decide (l.C9<=l.EJ)<;>rfl)
def JA (l:Ad):Bool:=l.CQ==0&&(l.CB==1&&(l.GU&&(((l.Ac.length:Int)==0)&&(((l.AA.Aq.length:Int)==0) && !must l.DY (!((l.Ar.Ap.length:Int)==0))))))
theorem ZbW (l:Ad):aW l=some (JA l):=(Aj _ _).trans (by
 have q:AU qI (.b1 l)=some (((l.Ac.length:Int)==0)&&(((l.AA.Aq.length:Int)==0) && !must l.DY (!((l.Ar.Ap.length:Int)==0)))):=(Aj _ _).trans (by
  simp only[qI,DN,ZxP,Z0F,Option.bind_some];cases ((l.Ac.length:Int)==0)<;>cases ((l.AA.Aq.length:Int)==0)<;>rfl)
 simp only[qI,DN,q,JA,bne];cases (l.CQ==0)<;>cases (l.CB==1)<;>cases l.GU<;>rfl)
theorem XX {n:Nat} (h:n<18446744073709551616):IntKind.u64.wrap (n:Int)=n:=by
 rw[show IntKind.u64.wrap (n:Int)=(n:Int) % 18446744073709551616 by simp[IntKind.wrap,IntKind.bits,IntKind.signed]];omega
theorem fd (n k:Nat):Int.fdiv (n:Int) (2 ^ k)=((n / 2 ^ k:Nat):Int):=by
 rw[Int.fdiv_eq_ediv_of_nonneg _ (Int.le_of_lt (Int.pow_pos (by decide)))];rw[Int.natCast_ediv];simp
def J1 (a:Int):Int:=IntKind.wrap .u64 ((bits .and .u64 (Int.fdiv a (2 ^ (1:Nat))) (6148914691236517205:Int))+(bits .and .u64 a (6148914691236517205:Int)))
def J2 (a:Int):Int:=IntKind.wrap .u64 ((bits .and .u64 (Int.fdiv a (2 ^ (2:Nat))) (3689348814741910323:Int))+(bits .and .u64 a (3689348814741910323:Int)))
def J3 (a:Int):Int:=bits .and .u64 (IntKind.wrap .u64 ((Int.fdiv a (2 ^ (4:Nat)))+a)) (1085102592571150095:Int)
def J4 (k:Nat) (a:Int):Int:=IntKind.wrap .u64 (a+(Int.fdiv a (2 ^ k)))
theorem j1 (n:Nat) (q:n<18446744073709551616) (h:s1 8 n<18446744073709551616):J1 (n:Int)=(s1 8 n:Nat):=by
 unfold J1;rw[fd,show (6148914691236517205:Int)=((6148914691236517205:Nat):Int) from rfl,u64_and_nat _ _ (by omega) (by decide),u64_and_nat _ _ q (by decide),<- Int.natCast_add];exact XX h
theorem j2 (n:Nat) (q:n<18446744073709551616) (h:s2 8 n<18446744073709551616):J2 (n:Int)=(s2 8 n:Nat):=by
 unfold J2;rw[fd,show (3689348814741910323:Int)=((3689348814741910323:Nat):Int) from rfl,u64_and_nat _ _ (by omega) (by decide),u64_and_nat _ _ q (by decide),<- Int.natCast_add];exact XX h
theorem j3 (n:Nat) (h:n+n / 16<18446744073709551616):J3 (n:Int)=(s3 8 n:Nat):=by
 unfold J3;rw[fd,<- Int.natCast_add,XX (by omega),show (1085102592571150095:Int)=((1085102592571150095:Nat):Int) from rfl,u64_and_nat _ _ (by omega) (by decide)];rfl
theorem j4 (k n:Nat) (h:n+n / 2 ^ k<18446744073709551616):J4 k (n:Int)=((n+n / 2 ^ k:Nat):Int):=by
 unfold J4;rw[fd,<- Int.natCast_add,XX h]
theorem Zpx (a:Int):lN a=some (bits .and .i64 (AQ (J4 32 (J4 16 (J4 8 (J3 (J2 (J1 a))))))) 127):=(Aj _ _).trans rfl
theorem ZEt (n:Int):AQ n % 128=n % 128:=by
 simp only[AQ,IntKind.wrap,IntKind.signed,IntKind.bits];simp;split<;>omega
theorem Zru (n:Nat) (F:n<2 ^ 37):lN (n:Int)=some ((bc 37 n:Nat):Int):=by
 rw[Zpx];have h:=ZG5 n;simp only at h;obtain⟨q,z,G,A,C,D⟩:=h;rw[j1 _ (by omega) q,j2 _ q (by omega),j3 _ z,j4 8 _ A,j4 16 _ C,j4 32 _ D];rw[<- ZEy n F,i64_and127,ZEt];rfl
theorem ZgF (n c:Nat) (q:n<18446744073709551616):hasB (n:Int) c=(n / 2 ^ c % 2==1):=by
 unfold hasB;rw[show ((n:Int) / 2 ^ c)=((n / 2 ^ c:Nat):Int) by rw[Int.natCast_ediv];simp];have hb:n / 2 ^ c<18446744073709551616:=Nat.lt_of_le_of_lt (Nat.div_le_self _ _) q;rw[show (1:Int)=((1:Nat):Int) from rfl,u64_and_nat _ _ hb (by decide),nat_mask1];generalize n / 2 ^ c % 2=x
 by_cases h:x=1
 ·subst h;rfl
 ·rw[show (x==1)=false by simpa using h];simpa using fun z =>h (by omega)
theorem ZEa (n:Nat) (q:n<18446744073709551616) (k:Nat):(Ff (n:Int) k).length=bc k n:=by
 induction k with
 | zero=>rfl
 | succ k z=>
  rw[Z3K,List.length_append,z,ZgF _ _ q];simp only[bc];rcases Nat.mod_two_eq_zero_or_one (n / 2 ^ k) with h|h<;>simp[h]
theorem ZEk (n:Nat) (q:n<18446744073709551616):bits .and .u64 (n:Int) 137438953471=((n % 2 ^ 37:Nat):Int):=by
 rw[show (137438953471:Int)=((137438953471:Nat):Int) from rfl,u64_and_nat _ _ q (by decide),Nat.and_two_pow_sub_one_eq_mod _ 37]
def cnt (m:Int):Int:=((Ff m 37).length:Int)
theorem ZHo (m:Int):0<=cnt m/\cnt m<=37:=by
 unfold cnt Ff;have q:=List.length_filter_le (hasB m) (List.range 37);rw[List.length_range]at q;exact⟨by omega,by omega⟩
theorem Z0w (n:Nat) (q:n<18446744073709551616):Va (n:Int)=some (cnt (n:Int)):=(Aj _ _).trans (by
 simp only[Z9z,DN,ZEk n q];rw[Zru _ (Nat.mod_lt _ (by decide))];simp only[Option.bind_some,cnt,ZEa n q,ZhY 37 37 n (Nat.le_refl _)])
def has (m c:Int):Bool:=decide (0<=c)&&(decide (c<37)&&hasB m c.toNat)
theorem Zbb (m c:Int) (hm:0<=m):pV m c=some (has m c):=(Aj _ _).trans (by
 simp only[Zbp,DN,has]
 by_cases q:c>=0
 ·by_cases z:c<37
  ·rw[decide_eq_true q,decide_eq_true z];simp only[cond_true,Bool.true_and,hasB];rw[show min c.toNat IntKind.u64.bits=c.toNat from Nat.min_eq_left (by simp[IntKind.bits];omega)];rw[Int.fdiv_eq_ediv_of_nonneg _ (Int.le_of_lt (Int.pow_pos (by decide)))]
  ·rw[decide_eq_true q,decide_eq_false z];simp
 ·rw[decide_eq_false q];simp)
theorem ZDc (k:Nat) (hk:k<=63):∀j i:Nat,i+j=k->AU WA (.b1 k ((2 ^ i:Nat):Int) i)=some ((2 ^ k:Nat):Int):=by
 intro j;induction j with
 | zero=>
  intro i q;refine(Aj _ _).trans ?_;simp only[WA,DN];rw[show decide ((i:Int)<(k:Int))=false by simp;omega,show i=k by omega];rfl
 | succ j z=>
  intro i q;refine(Aj _ _).trans ?_;simp only[WA,DN];have hp:2 ^ (i+1)<=2 ^ 63:=Nat.pow_le_pow_right (by decide) (by omega);rw[show decide ((i:Int)<(k:Int))=true by simp;omega];simp only[cond_true];rw[show ((2 ^ i:Nat):Int)*2=((2 ^ (i+1):Nat):Int) by rw[Nat.pow_succ];simp,XX (by omega),Ox (by omega) (by omega)];exact z (i+1) (by omega)
theorem ZdB (k:Nat) (hk:k<=63):UX (k:Int)=some ((2 ^ k:Nat):Int):=(Aj _ _).trans (ZDc k hk k 0 (by omega))
theorem ZB7 (n:Nat) (A:n<18446744073709551616) (c:Int):Wp (n:Int) c=some (has (n:Int) c):=(Aj _ _).trans (by
 simp only[Z3i,DN,has]
 by_cases q:c>=0
 ·by_cases z:c<=36
  ·rw[decide_eq_true q,decide_eq_true z,decide_eq_true (show c<37 by omega)];obtain⟨k,rfl⟩:∃k:Nat,c=k:=⟨c.toNat,by omega⟩;have hp:0<2 ^ k:=Nat.pow_pos (by decide);simp only[cond_true,Bool.true_and,Int.toNat_natCast];rw[ZdB k (by omega),ZgF _ _ A];simp only[Option.bind_some];rw[show (((2 ^ k:Nat):Int) != 0)=true from bne_iff_ne.mpr (Int.natCast_ne_zero.mpr (Nat.pos_iff_ne_zero.mp hp))];simp only[cond_true];rw[Int.tdiv_eq_ediv_of_nonneg (Int.natCast_nonneg _),<- Int.natCast_ediv,XX (Nat.lt_of_le_of_lt (Nat.div_le_self _ _) A),Int.tmod_eq_emod_of_nonneg (Int.natCast_nonneg _)];generalize n / 2 ^ k=x;rcases Nat.mod_two_eq_zero_or_one x with h|h
   ·rw[show ((x:Int) % 2)=0 by omega,h];rfl
   ·rw[show ((x:Int) % 2)=1 by omega,h];rfl
  ·rw[decide_eq_true q,decide_eq_false z,decide_eq_false (show ¬c<37 by omega)];simp
 ·rw[decide_eq_false q];simp)
theorem ZFe (m:Int) (c:Nat) (hc:c<37):has m c=hasB m c:=by
 unfold has;rw[decide_eq_true (show (0:Int)<=c by omega),decide_eq_true (show (c:Int)<37 by omega)];rfl
def Ns (m:Int) (k:Nat):List Int:=(Ff m k).map fun c:Nat=>(c:Int)
theorem ZGH (m:Int) (k:Nat):(Ff m k).length<=k:=by
 have q:=List.length_filter_le (hasB m) (List.range k);rw[List.length_range]at q;exact q
theorem ZAQ (n:Nat) (C:n<18446744073709551616):∀j i:Nat,i+j=37->AU QH (.b1 n (Ns n i) i)=some (Ns n 37):=by
 intro j;induction j with
 | zero=>
  intro i A;refine(Aj _ _).trans ?_;simp only[QH,DN];rw[show decide ((i:Int)<=36)=false by simp;omega,show i=37 by omega];simp
 | succ j D=>
  intro i A;have hb:∀xs:List Int,AU QH (.b2 n xs i)=AU QH (.b1 n xs (i+1:Nat)):=fun xs=>(Aj _ _).trans (by
   simp only[QH,DN];rw[Ox (by omega) (by omega)];simp)
  have hl:(Ns n i).length<=37:=by
   rw[Ns,List.length_map];have:=ZGH n i;omega
  refine(Aj _ _).trans ?_;simp only[QH,DN];rw[show decide ((i:Int)<=36)=true by simp;omega];simp only[cond_true,ZB7 n C,Option.bind_some,ZFe (n:Int) i (by omega)];have e:Ns n (i+1)=Ns n i++if hasB n i then [(i:Int)] else []:=by
   simp only[Ns,Z3K,List.map_append];split<;>rfl
  have q:=D (i+1) (by omega);rw[e]at q;cases z:hasB (n:Int) i with
  | true=>
   rw[z]at q;simp only[if_true]at q;simp only[cond_true,List.length_cons,List.length_nil,beq_self_eq_true];rw[show (decide (((Ns n i).length+(0+1))*8<=lim)&&decide ((Ns n i).length+(0+1)<=maxLen))=true from
    Bool.and_eq_true_iff.mpr ⟨decide_eq_true (Nat.le_trans (show _<=1000 by omega) (by decide)),decide_eq_true (Nat.le_trans (show _<=1000 by omega) (by decide))⟩]
   simp only[cond_true,hb];exact q
  | false=>
   rw[z]at q;simp only[Bool.false_eq_true,if_false,List.append_nil]at q;simp only[cond_false,beq_self_eq_true,cond_true,hb];exact q
theorem ZyJ (n:Nat) (q:n<18446744073709551616):WT (n:Int)=some (Ns n 37):=(Aj _ _).trans (by
 simp only[QH,DN,List.length_nil,beq_self_eq_true,cond_true];exact ZAQ n q 37 0 (by omega))
theorem ZEe (m:Int):((Ns m 37).length:Int)=cnt m:=by unfold Ns cnt;rw[List.length_map]
theorem ZvG (n:Nat) (q:n<18446744073709551616):WM (n:Int)=some (cnt (n:Int)):=(Aj _ _).trans (by
 simp only[Z2b,DN,ZyJ n q,Option.bind_some,ZEe])
def JI (m:Int):Int:=if m>=137438953472 then 5 else if cnt m<2 then 1 else 0
theorem ZzO (n:Nat) (q:n<18446744073709551616):(bits .andNot .u64 (n:Int) 137438953471 != 0)=decide ((n:Int)>=137438953472):=by
 rw[show (137438953471:Int)=((137438953471:Nat):Int) from rfl,u64_andNot_nat _ _ q (by decide)];have e:n &&& (18446744073709551615 - 137438953471)=2 ^ 37*(n / 2 ^ 37):=by
  refine Nat.eq_of_testBit_eq fun j=>?_;rw[Nat.testBit_and,show 18446744073709551615 - 137438953471=2 ^ 37*(2 ^ 27 - 1)+0 from rfl,Nat.testBit_two_pow_mul_add _ (by decide),show 2 ^ 37*(n / 2 ^ 37)=2 ^ 37*(n / 2 ^ 37)+0 from rfl,Nat.testBit_two_pow_mul_add _ (by decide)];split
  ·simp
  ·rename_i z;rw[Nat.testBit_div_two_pow,Nat.testBit_two_pow_sub_one,show j - 37+37=j by omega]
   by_cases h:j - 37<27
   ·simp[h]
   ·have:n.testBit j=false:=Nat.testBit_lt_two_pow (Nat.lt_of_lt_of_le q (by
     have:2 ^ 64<=2 ^ j:=Nat.pow_le_pow_right (by decide) (by omega);simpa using this))
    simp[this]
 rw[e]
 by_cases h:(n:Int)>=137438953472
 ·rw[decide_eq_true h];simp;omega
 ·rw[decide_eq_false h,show n / 2 ^ 37=0 by omega];rfl
theorem ZpL (n:Nat) (z:n<18446744073709551616):Z0B (n:Int)=some (JI n):=(Aj _ _).trans (by
 simp only[Z9g,DN,ZzO n z,Z0w n z,Option.bind_some,JI]
 by_cases h:(n:Int)>=137438953472
 ·rw[decide_eq_true h,if_pos h];rfl
 ·rw[decide_eq_false h,if_neg h]
  by_cases q:cnt n<2
  ·rw[decide_eq_true q,if_pos q];rfl
  ·rw[decide_eq_false q,if_neg q];rfl)
theorem Zvm (n:Nat) (z:n<18446744073709551616):dK (n:Int)=some (JI n):=(Aj _ _).trans (by
 simp only[Z2j,DN];rw[show UX 37=some 137438953472 from ZdB 37 (by decide)];simp only[ZvG n z,Option.bind_some,JI]
 by_cases h:(n:Int)>=137438953472
 ·rw[decide_eq_true h,if_pos h];rfl
 ·rw[decide_eq_false h,if_neg h]
  by_cases q:cnt n<2
  ·rw[decide_eq_true q,if_pos q];rfl
  ·rw[decide_eq_false q,if_neg q];rfl)
def Z52 (m c:Int):Int:=if has m (cl 0 36 c) then cl 0 36 c else if cnt m=0 then -1 else P7 m (Int.tmod (cl 0 36 c) (cnt m))
theorem Zb3 (m i:Int):pF m i=some (P7 m i):=rfl
theorem ZpZ (n:Nat) (q:n<18446744073709551616) (c:Int):Z0t (n:Int) c=some (Z52 n c):=(Aj _ _).trans (by
 simp only[Z9E,DN,Zbb (n:Int) _ (Int.natCast_nonneg n),Z0w n q,Zb3,Option.bind_some,cl1 0 36 c (by decide),Z52];cases has (n:Int) (cl 0 36 c) with
 | true=>rfl
 | false=>
  by_cases h:cnt n=0
  ·rw[h];rfl
  ·rw[show (cnt (n:Int)==0)=false by simpa using h,show (cnt (n:Int) != 0)=true by simpa using h];simp[h])
def R8 (n:Int):Prop:=0<=n/\n<256
def R16 (n:Int):Prop:=0<=n/\n<65536
def R32 (n:Int):Prop:=0<=n/\n<4294967296
def CO (n:Int):Prop:=0<=n/\n<18446744073709551616
inductive CV:AO->Prop
 | upd (u:DR) (i:Int):Hu u=0->R16 i->CV ⟨0,u,0,i,0,0,0,0,0,0,0⟩
 | map (m i:Int):CO m->JI m=0->R16 i->CV ⟨1,CE,m,i,0,0,0,0,0,0,0⟩
 | term (r:Int):R8 r->CV ⟨2,CE,0,0,r,0,0,0,0,0,0⟩
 | enc (s m:Int):CO s->CO m->CV ⟨3,CE,0,0,0,0,s,m,0,0,0⟩
 | ans (s:Int):CO s->CV ⟨4,CE,0,0,0,0,s,0,0,0,0⟩
 | plain (k:Int):(k=5\/k=6\/k=18\/k=19)->CV ⟨k,CE,0,0,0,0,0,0,0,0,0⟩
 | VK (r:Int):R8 r->CV ⟨7,CE,0,0,0,r,0,0,0,0,0⟩
 | kK (k f:Int):(k=8\/k=9)->CO f->CV ⟨k,CE,0,0,0,0,0,0,f,0,0⟩
 | Xr (v:Int):R8 v->CV ⟨12,CE,0,0,0,0,0,0,0,v,0⟩
 | VS (r k:Int):R8 r->R8 k->CV ⟨13,CE,0,0,r,k,0,0,0,0,0⟩
 | par (u:DR):Hu u=0->CV ⟨15,u,0,0,0,0,0,0,0,0,0⟩
 | len (k n:Int):(k=20\/k=21)->27<=n->n<=251->CV ⟨k,CE,0,0,0,0,0,0,0,0,n⟩
theorem CV.ZI3 {c:AO} (h:CV c) (hk:c.Kind=20):27<=c.Length/\c.Length<=251:=by
 cases h<;>first|(dsimp only at hk;omega)|exact⟨by assumption,by assumption⟩
theorem CV.inst {c:AO} {i:Int} (h:CV c) (hk:c.Kind=0\/c.Kind=1) (q:R16 i):CV { c with DZ:=i }:=by
 cases h<;>first|(dsimp only at hk;omega)|exact CV.upd _ _ (by assumption) q|exact CV.map _ _ (by assumption) (by assumption) q
theorem E8 {n:Int} (h : -9223372036854775808<=n) (q : n<=9223372036854775807):AQ n=n:=by
 simp only[AQ,IntKind.wrap,IntKind.signed,IntKind.bits];simp;omega
theorem Ru (i:Nat) (h:i<4611686018427387904):AQ ((i:Int)+1)=((i+1:Nat):Int):=by
 rw[E8 (by omega) (by omega)];simp
theorem wu64 {n:Int} (h:0<=n) (q : n<18446744073709551616):IntKind.wrap .u64 n=n:=by rw[IntKind.wrap_u64];exact Int.emod_eq_of_lt h q
theorem Jy {n:Int} (h:0<=n) (q : n<4294967296):IntKind.wrap .u32 n=n:=by rw[IntKind.wrap_u32];exact Int.emod_eq_of_lt h q
theorem wu16 {n:Int} (h:0<=n) (q : n<65536):IntKind.wrap .u16 n=n:=by rw[IntKind.wrap_u16];exact Int.emod_eq_of_lt h q
theorem Xx {n:Int} (h:0<=n) (q : n<256):IntKind.wrap .u8 n=n:=by rw[IntKind.wrap_u8];exact Int.emod_eq_of_lt h q
theorem r64 (n:Int):0<=IntKind.wrap .u64 n/\IntKind.wrap .u64 n<18446744073709551616:=by rw[IntKind.wrap_u64];omega
theorem r32 (n:Int):0<=IntKind.wrap .u32 n/\IntKind.wrap .u32 n<4294967296:=by rw[IntKind.wrap_u32];omega
theorem r8 (n:Int):0<=IntKind.wrap .u8 n/\IntKind.wrap .u8 n<256:=by rw[IntKind.wrap_u8];omega
theorem b64 (o:BinOp) (a b:Int):0<=bits o .u64 a b/\bits o .u64 a b<18446744073709551616:=r64 _
theorem b32 (o:BinOp) (a b:Int):0<=bits o .u32 a b/\bits o .u32 a b<4294967296:=r32 _
theorem b8 (o:BinOp) (a b:Int):0<=bits o .u8 a b/\bits o .u8 a b<256:=r8 _
theorem wraps_u64 (n:Int) (q:0<=n) (z:n<2 ^ 64):IntKind.u64.wrap n=n:=wu64 q z
theorem wraps_u32 (n:Int) (q:0<=n) (z:n<2 ^ 32):IntKind.u32.wrap n=n:=Jy q z
theorem Z4O (k:IntKind) (j:Nat) (D:j<=k.bits) (hk:∀n:Int,0<=n->n<2 ^ j->k.wrap n=n) (i:Nat) (G:i<=j)
  (x y:Int) (C:0<=y) (I:y % 2 ^ i=0) (z:y<2 ^ j) (A:0<=x) (F:x<2 ^ i):bits .or k x y=x+y:=by
 have q:x<2 ^ j:=Int.lt_of_lt_of_le F (by exact_mod_cast Nat.pow_le_pow_right (by decide) G);have h:=bits_join k j D hk i y x C I z A F q;obtain⟨a,rfl⟩:=Int.eq_ofNat_of_zero_le A;obtain⟨b,rfl⟩:=Int.eq_ofNat_of_zero_le C;rw[(bits_nat k j D hk b a (by exact_mod_cast z) (by exact_mod_cast q)).2]at h;rw[(bits_nat k j D hk a b (by exact_mod_cast q) (by exact_mod_cast z)).2,Nat.or_comm,h,Int.add_comm]
theorem ZHn {i n:Nat} (h:i<n):decide (i<n)=true:=decide_eq_true h
theorem ZEH {i n:Nat} (h:n<=i):decide (i<n)=false:=decide_eq_false (by omega)
theorem Us:1000000000<=lim:=by decide
theorem U6:1000000000<=maxLen:=by decide
theorem ZhU (a b k:Nat) (h:a+b<=1000000) (hk:k<=1000):(decide ((a+b)*k<=lim)&&decide (a+b<=maxLen))=true:=by
 have q:(a+b)*k<=1000000000:=Nat.le_trans (Nat.mul_le_mul h hk) (by decide);exact Bool.and_eq_true_iff.mpr ⟨decide_eq_true (Nat.le_trans q Us),decide_eq_true (Nat.le_trans (Nat.le_trans h (by decide)) U6)⟩
theorem ZEq (a k:Nat) (h:a<=1000000) (hk:k<=1000):(decide (a*k<=lim)&&decide (a<=maxLen))=true:=by
 simpa using ZhU 0 a k (by simpa using h) hk
theorem SL:(∀n:Nat,(0:Int)<=(n:Int))/\(∀n m:Nat,((n:Int)<(m:Int))↔n<m)/\(∀n:Nat,Int.toNat (n:Int)=n) /\
  (∀(α:Type) (l:List α) (i:Nat) (h:i<l.length),l[i]? = some l[i])/\(∀(α:Type) [BEq α] [ReflBEq α] (a:α),(a==a)=true) /\
  (∀a:Bool,(a&&true)=a)/\(∀a:Bool,(true&&a)=a)/\(∀(α:Type) (a b:List α),(a++b).length=a.length+b.length)/\(∀(α:Type) (a:List α),[]++a=a)/\(∀n:Nat,0+n=n) /\
  (∀a b k:Nat,a+b<=1000000->k<=1000->(decide ((a+b)*k<=lim)&&decide (a+b<=maxLen))=true)/\(∀a k:Nat,a<=1000000->k<=1000->(decide (a*k<=lim)&&decide (a<=maxLen))=true) /\
  (∀i:Nat,i<4611686018427387904->AQ ((i:Int)+1)=((i+1:Nat):Int))/\(∀i n:Nat,i<n->decide (i<n)=true)/\(∀i n:Nat,n<=i->decide (i<n)=false):=
 ⟨Int.natCast_nonneg,@Int.ofNat_lt,Int.toNat_natCast,fun _ _ _ h=>List.getElem?_eq_getElem h,fun _ _ _ a=>beq_self_eq_true a,Bool.and_true,Bool.true_and,fun _ _ _=>List.length_append,fun _ a=>List.nil_append a,Nat.zero_add,ZhU,ZEq,Ru,fun _ _ h=>ZHn h,fun _ _ h=>ZEH h⟩
theorem SM:(∀(α q:Type) (a:α) (f:α->Option q),(some a).bind f=f a)/\(decide True=true)/\(decide False=false)/\(∀(α:Type) (a b:α),cond true a b=a)/\(∀(α:Type) (a b:α),cond false a b=b) /\
  (∀p:Prop,(True/\p)=p)/\(∀p:Prop,(p/\True)=p)/\(∀α:Type,([]:List α).length=0)/\(∀(α:Type) (a:α) (l:List α),(a::l).length=l.length+1)/\((!true)=false)/\((!false)=true):=
 ⟨fun _ _ _ _=>rfl,rfl,rfl,fun _ _ _=>rfl,fun _ _ _=>rfl,true_and,and_true,fun _=>rfl,fun _ _ _=>rfl,rfl,rfl⟩
theorem uT {S R α:Type} (F:S->Int->Option R) (xs:List α) (step:S->α->S) (q:S->Option R) (Inv:Nat->S->Prop)
  (A:∀(i:Nat) s (h:i<xs.length),Inv i s->F s i=F (step s xs[i]) ((i+1:Nat):Int)/\Inv (i+1) (step s xs[i]))
  (G:∀s,Inv xs.length s->F s (xs.length:Int)=q s) (s:S) (N:Inv 0 s):F s 0=q (xs.foldl step s)/\Inv xs.length (xs.foldl step s):=by
 have key:∀(ys D:List α) (s:S),xs=ys++D->Inv ys.length s->F s (ys.length:Int)=q (D.foldl step s)/\Inv xs.length (D.foldl step s):=by
  intro ys D;induction D generalizing ys with
  | nil=>
   intro s C I;rw[List.append_nil]at C;subst C;exact⟨G s I,I⟩
  | cons z D O=>
   intro s C I;have hl:ys.length<xs.length:=by rw[C];simp
   have hz:xs[ys.length]=z:=by simp[C]
   obtain⟨J,M⟩:=A ys.length s hl I;rw[hz]at J M;rw[J];have:=O (ys++[z]) (step s z) (by simp[C]) (by simpa using M);simpa using this
 exact key [] xs s rfl N
theorem ZAq {α q:Type} (f:α->List q) (xs:List α) (s:List q):xs.foldl (fun s x=>s++f x) s=s++xs.flatMap f:=by
 induction xs generalizing s with
 | nil=>simp
 | cons x xs z=>simp[List.foldl_cons,z,List.append_assoc]
def Bytes (xs:List Int):Prop:=∀x∈xs,0<=x/\x<256
theorem Bytes.nil:Bytes []:=fun _ h=>by cases h
theorem Bytes.cons {x:Int} {xs:List Int} (h:0<=x/\x<256) (q:Bytes xs):Bytes (x::xs):=fun y hy=>by
 rcases List.mem_cons.1 hy with rfl|hy
 ·exact h
 ·exact q y hy
theorem Bytes.app {xs ys:List Int} (q:Bytes xs) (z:Bytes ys):Bytes (xs++ys):=fun y h=>(List.mem_append.1 h).elim (q y) (z y)
theorem Bytes.sub {xs ys:List Int} (q:Bytes xs) (h:∀y∈ys,y∈xs):Bytes ys:=fun y z=>q y (h y z)
theorem Bytes.take {xs:List Int} (q:Bytes xs) (n:Nat):Bytes (xs.take n):=q.sub fun _ h=>List.mem_of_mem_take h
theorem Bytes.drop {xs:List Int} (q:Bytes xs) (n:Nat):Bytes (xs.drop n):=q.sub fun _ h=>List.mem_of_mem_drop h
theorem Bytes.get {xs:List Int} (q:Bytes xs) (i:Nat) (h:i<xs.length):0<=xs[i]/\xs[i]<256:=q _ (List.getElem_mem h)
theorem Bytes.flat {α:Type} (f:α->List Int) (l:List α) (h:∀x∈l,Bytes (f x)):Bytes (l.flatMap f):=fun y q=>by
 obtain⟨x,z,q⟩:=List.mem_flatMap.1 q;exact h x z y q
def val:List Int->Int
 | []=>0
 | b::r=>b+256*val r
theorem xU {xs:List Int} (h:Bytes xs):0<=val xs/\val xs<256 ^ xs.length:=by
 induction xs with
 | nil=>simp[val]
 | cons x xs z=>
  have A:=z fun y q=>h y (List.mem_cons_of_mem _ q);have C:=h x List.mem_cons_self;simp only[val,List.length_cons];rw[Int.pow_succ];omega
theorem val_append (xs:List Int) (ys:List Int):val (xs++ys)=val xs+256 ^ xs.length*val ys:=by
 induction xs with
 | nil=>simp[val]
 | cons x xs q=>
  simp only[List.cons_append,val,q,List.length_cons];rw[Int.pow_succ,Int.mul_add,<- Int.mul_assoc,Int.mul_comm 256 (256 ^ xs.length),Int.add_assoc]
theorem ZBk {n:Nat} (h:n<=8):(256:Int) ^ n<=18446744073709551616:=
 (by decide:∀n:Fin 9,(256:Int) ^ n.1<=18446744073709551616) ⟨n,by omega⟩
theorem XE {xs:List Int} (h:Bytes xs) (hl:xs.length<=8):0<=val xs/\val xs<18446744073709551616:=by
 have q:=xU h;exact⟨q.1,Int.lt_of_lt_of_le q.2 (ZBk hl)⟩
def num:Nat->Int->List Int
 | 0,_=>[]
 | n+1,v=>(v % 256)::num n (v / 256)
theorem KN (n:Nat) (v:Int):(num n v).length=n:=by
 induction n generalizing v with
 | zero=>rfl
 | succ n q=>simp[num,q]
theorem U5 (n:Nat) (v:Int):Bytes (num n v):=by
 induction n generalizing v with
 | zero=>exact Bytes.nil
 | succ n q=>exact Bytes.cons (by omega) (q _)
theorem Zgd (n:Nat) (v:Int):num (n+1) v=num n v++[v / 256 ^ n % 256]:=by
 induction n generalizing v with
 | zero=>simp[num]
 | succ n q=>
  have e:num (n+2) v=(v % 256)::num (n+1) (v / 256):=rfl;rw[e,q];simp only[num,List.cons_append];rw[Int.pow_succ,Int.mul_comm,<- Int.ediv_ediv_of_nonneg (by decide)]
theorem ZDn (n m:Nat) (v:Int) (h:n<=m):(num m v).take n=num n v:=by
 induction n generalizing m v with
 | zero=>simp[num]
 | succ n q=>
  obtain⟨m,rfl⟩:∃k,m=k+1:=⟨m - 1,by omega⟩;simp[num,q m _ (by omega)]
theorem via {α:Type} {a b:α} (m:α) (q:a=m) (z:b=m):a=b:=q.trans z.symm
theorem and32 (x:Int) (h:0<=x) (q : x<18446744073709551616):bits .and .u64 x (IntKind.wrap .u64 ((IntKind.wrap .u64 ((1:Int)*2 ^ (min (Int.toNat 32) (IntKind.bits .u64)))) - (1:Int)))=x % 4294967296:=by
 have:=bits_mask .u64 64 (by decide) wraps_u64 32 (by decide) x h q;exact this
theorem Za7 (x:Int) (h:0<=x) (q : x<18446744073709551616):RZ x 32=some (x % 4294967296):=(Aj _ _).trans (by
 simp only[Z1C,DN];rw[show decide ((32:Int)<=0)=false from rfl,show decide ((32:Int)>=64)=false from rfl,show decide ((0:Int)<=32)=true from rfl];simp only[cond_false,cond_true];rw[and32 x h q])
theorem or0 (x:Int) (h:0<=x) (q : x<18446744073709551616):bits .or .u64 x 0=x:=by
 obtain⟨a,rfl⟩:=Int.eq_ofNat_of_zero_le h;have:=(bits_nat .u64 64 (by decide) wraps_u64 a 0 (show a<18446744073709551616 by omega) (by decide)).2;rw[Nat.or_zero]at this;exact this
def rotl (k:Int) (p q:Nat):Int:=bits .or .u64 (IntKind.wrap .u64 (k*2 ^ p)) (Int.fdiv k (2 ^ q))
theorem rotl0 (k:Int) (h:0<=k) (q : k<18446744073709551616):rotl k 0 64=k:=by
 unfold rotl;rw[Int.pow_zero,Int.mul_one,wu64 h q,Int.fdiv_eq_ediv_of_nonneg _ (by decide),show (2:Int) ^ 64=18446744073709551616 from rfl,Int.ediv_eq_zero_of_lt h q,or0 k h q]
theorem ZHc (k:Int) (h:0<=k) (F : k<18446744073709551616) (i:Int) (O:0<=i) (Q:i<8) :
  ∃lo,(0<=lo/\lo<4294967296)/\Wj k i=some lo/\∃x,VU k (Int.tmod (AQ ((11:Int)*(Int.tmod i (64:Int)))) (64:Int))=some x/\∃y,RZ x 32=some y/\IntKind.wrap .u32 y=lo:=by
 have key:∀x,0<=x->x<18446744073709551616->AU iH (.b1 x)=some (x % 4294967296):=fun x C A =>(Aj _ _).trans (by
  simp only[iH,DN];rw[Int.tmod_eq_emod_of_nonneg C,Jy (by omega) (by omega)])
 have M:i=0\/i=1\/i=2\/i=3\/i=4\/i=5\/i=6\/i=7:=by omega
 have low:∀x,0<=x->x<18446744073709551616->∃y,RZ x 32=some y/\IntKind.wrap .u32 y=x % 4294967296:=fun x C A =>⟨_,Za7 x C A,Jy (by omega) (by omega)⟩;have z:∀p q:Nat,∀n:Int,VU k n=some (rotl k p q)->Wj k i=AU iH (.b1 (rotl k p q))->Int.tmod (AQ ((11:Int)*(Int.tmod i (64:Int)))) (64:Int)=n ->
   ∃lo,(0<=lo/\lo<4294967296)/\Wj k i=some lo/\∃x,VU k (Int.tmod (AQ ((11:Int)*(Int.tmod i (64:Int)))) (64:Int))=some x/\∃y,RZ x 32=some y/\IntKind.wrap .u32 y=lo:=fun p q n G I J=>by
  have hb:0<=rotl k p q/\rotl k p q<18446744073709551616:=b64 _ _ _;obtain⟨y,N,D⟩:=low _ hb.1 hb.2;exact⟨rotl k p q % 4294967296,by omega,by rw[I,key _ hb.1 hb.2],_,by rw[J];exact G,y,N,D⟩
 rcases M with rfl|rfl|rfl|rfl|rfl|rfl|rfl|rfl
 ·refine z 0 64 0 ((Aj _ _).trans rfl) ?_ rfl;rw[rotl0 k h F];exact(Aj _ _).trans rfl
 ·exact z 11 53 11 ((Aj _ _).trans rfl) ((Aj _ _).trans rfl) rfl
 ·exact z 22 42 22 ((Aj _ _).trans rfl) ((Aj _ _).trans rfl) rfl
 ·exact z 33 31 33 ((Aj _ _).trans rfl) ((Aj _ _).trans rfl) rfl
 ·exact z 44 20 44 ((Aj _ _).trans rfl) ((Aj _ _).trans rfl) rfl
 ·exact z 55 9 55 ((Aj _ _).trans rfl) ((Aj _ _).trans rfl) rfl
 ·exact z 2 62 2 ((Aj _ _).trans rfl) ((Aj _ _).trans rfl) rfl
 ·exact z 13 51 13 ((Aj _ _).trans rfl) ((Aj _ _).trans rfl) rfl
theorem turn7 (x:Int):Qz x 7=Oj x 7:=by
 rw[show Qz x 7=_ from Aj _ _,show Oj x 7=_ from Aj _ _];rfl
theorem ZI6 (x:Int):Qz x 16=Oj x 16:=by
 rw[show Qz x 16=_ from Aj _ _,show Oj x 16=_ from Aj _ _];rfl
theorem ZFA (k:Int) (h:0<=k) (z : k<18446744073709551616) (i:Int) (A:0<=i) (I:i<8) (a:Int):qU k i a=aJ k i a:=by
 obtain⟨q,J,C,x,D,y,F,G⟩:=ZHc k h z i A I;refine via ((Oj (IntKind.wrap .u32 (a+q)) 7).bind fun M=>(Oj q 16).bind fun N=>some (bits .xor .u32 (IntKind.wrap .u32 (M*(2654435761:Int))) N)) ((Aj _ _).trans ?_) ((Aj _ _).trans ?_)
 ·simp only[Z22,DN,C,Option.bind_some];rfl
 ·simp only[Z0X,DN,D,F,G,Option.bind_some,turn7,ZI6];rfl
theorem ZHZ (k:Int) (h:0<=k) (I : k<18446744073709551616):∀(n:Nat) (i l r:Int),0<=i->8 - i<=n->0<=l->l<4294967296->0<=r->r<4294967296->AU U2 (.b1 k l r i)=AU Iw (.b1 k i ⟨l,r⟩):=by
 have D:∀i l r:Int,¬i<8->0<=l->l<4294967296->0<=r->r<4294967296->AU U2 (.b1 k l r i)=AU Iw (.b1 k i ⟨l,r⟩):=fun i l r A hl z C q =>by
  refine via (some (l*4294967296+r)) ((Aj _ _).trans ?_) ((Aj _ _).trans ?_)
  ·simp only[U2,DN];rw[decide_eq_false A,wu64 (n:=l) (by omega) (by omega),wu64 (n:=r) (by omega) (by omega),wu64 (n:=l*4294967296) (by omega) (by omega),wu64 (by omega) (by omega)];rfl
  ·simp only[Iw,DN];rw[decide_eq_false A];simp only[cond_false];rw[show Y2 ⟨l,r⟩=some (l*4294967296+r) from(Aj _ _).trans (by
    simp only[mM,DN];rw[wu64 (n:=l) (by omega) (by omega),wu64 (n:=r) (by omega) (by omega),show (2:Int) ^ (32:Nat)=4294967296 from rfl,wu64 (n:=l*4294967296) (by omega) (by omega)];rw[bits_join .u64 64 (by decide) wraps_u64 32 (l*4294967296) r (by omega) (by omega) (by omega) C (by omega) (by omega)])]
   rfl
 intro n;induction n with
 | zero=>intro i l r F J hl z C q;exact D i l r (by omega) hl z C q
 | succ n M=>
  intro i l r F J hl z C q
  by_cases A:i<8
  ·refine via ((aJ k i r).bind fun x=>AU Iw (.b1 k (AQ (i+1)) ⟨r,bits .xor .u32 l x⟩)) ((Aj _ _).trans ?_) ((Aj _ _).trans ?_)
   ·simp only[U2,DN];rw[decide_eq_true A,ZFA k h I i F A];simp only[cond_true];congr 1;funext x;have G:=b32 .xor l x;rw[E8 (by omega) (by omega)];exact M (i+1) r (bits .xor .u32 l x) (by omega) (by omega) C q G.1 G.2
   ·simp only[Iw,DN];rw[decide_eq_true A];rfl
  ·exact D i l r A hl z C q
theorem e_Mix (k x:Int) (h:0<=k) (A : k<18446744073709551616) (q:0<=x) (z : x<18446744073709551616):Rn k x=LH k x:=by
 refine via (AU Iw (.b1 k 0 ⟨x / 4294967296,x % 4294967296⟩)) ((Aj _ _).trans ?_) ((Aj _ _).trans ?_)
 ·simp only[U2,DN];rw[Int.tdiv_eq_ediv_of_nonneg q,Int.tmod_eq_emod_of_nonneg q,wu64 (n:=x / 4294967296) (by omega) (by omega),Jy (n:=x / 4294967296) (by omega) (by omega),Jy (n:=x % 4294967296) (by omega) (by omega)];exact ZHZ k h A 8 0 _ _ (by omega) (by omega) (by omega) (by omega) (by omega) (by omega)
 ·simp only[Iw,DN];rw[show o8 x=some ⟨x / 4294967296,x % 4294967296⟩ from(Aj _ _).trans (by
   simp only[Z0W,DN,Za7 x q z,Option.bind_some];rw[Int.fdiv_eq_ediv_of_nonneg _ (by decide),show (2:Int) ^ (32:Nat)=4294967296 from rfl,Jy (n:=x / 4294967296) (by omega) (by omega),Jy (n:=x % 4294967296) (by omega) (by omega)])]
  rfl
noncomputable def Nk (k x:Int):Int:=(LH k x).getD 0
theorem XY (k x:Int):LH k x=some (Nk k x):=by
 obtain⟨r,q⟩:=Zia k x;rw[Nk,q];rfl
theorem ZDA (k:Int):∀(n:Nat) (i:Int) (h:JX) (r:Int),0<=i->8 - i<=n->AU Iw (.b1 k i h)=some r->0<=r/\r<18446744073709551616:=by
 have z:∀(i:Int) (h:JX) (r:Int),¬i<8->AU Iw (.b1 k i h)=some r->0<=r/\r<18446744073709551616:=fun i h r A q=>by
  rw[Aj]at q;simp only[Iw,DN]at q;rw[decide_eq_false A,show Y2 h=_ from Aj _ _]at q;simp only[mM,DN,cond_false,Option.bind_some,Option.some.injEq]at q;rw[<- q];exact b64 _ _ _
 intro n;induction n with
 | zero=>intro i h r C D q;exact z i h r (by omega) q
 | succ n G=>
  intro i h r C D q
  by_cases A:i<8
  ·rw[Aj]at q;simp only[Iw,DN]at q;rw[decide_eq_true A,E8 (by omega) (by omega)]at q;simp only[cond_true]at q;obtain⟨x,_,F⟩:=Option.bind_eq_some_iff.1 q;exact G _ _ _ (by omega) (by omega) F
  ·exact z i h r A q
theorem wI (k x:Int):0<=Nk k x/\Nk k x<18446744073709551616:=by
 have h:=XY k x;rw[show LH k x=_ from Aj _ _]at h;simp only[Iw,DN]at h;obtain⟨y,_,q⟩:=Option.bind_eq_some_iff.1 h;exact ZDA k 8 0 y _ (by omega) (by omega) q
def Gn (k:Int):Prop:=0<=k/\k<18446744073709551616
theorem uZ (k x:Int) (h:Gn k) (q:Gn x):Rn k x=some (Nk k x):=(e_Mix k x h.1 h.2 q.1 q.2).trans (XY k x)
theorem Z3B {R α C:Type} (F:List C->Int->Option R) (xs:List α) (f:α->List C) (q:List C->Option R) (B:Nat)
  (z:∀(i:Nat) s (h:i<xs.length),s.length+(f xs[i]).length<=B->F s i=F (s++f xs[i]) ((i+1:Nat):Int))
  (A:∀s,F s (xs.length:Int)=q s) (s:List C) (D:s.length+(xs.flatMap f).length<=B):F s 0=q (s++xs.flatMap f):=by
 have key:=uT F xs (fun s x=>s++f x) q (fun i s=>s.length+((xs.drop i).flatMap f).length<=B)
  (fun i s h G=>by
   simp only[List.drop_eq_getElem_cons h,List.flatMap_cons,List.length_append]at G;exact⟨z i s h (by omega),by simp only[List.length_append];omega⟩)
  (fun s _=>A s) s (by simpa using D)
 rw[key.1,ZAq]
theorem jR (ls:List (List Int)) (h:ls.flatten.length<=100000) (hl:ls.length<=100000):UN ls=some ls.flatten:=(Aj _ _).trans (by
 simp only[aU,DN,SL,SM];have:=Z3B (fun s i=>AU aU (.b1 s ls ls.length i)) ls id some 100000 (fun i s q hs=>(Aj _ _).trans (by
   simp only[id]at hs;simp(disch:=omega) only[aU,q,id,DN,SL,SM]))
  (fun s=>(Aj _ _).trans (by simp only[aU,Int.lt_irrefl,DN,SL,SM])) [] (by simpa[List.flatMap_id]using h)
 simpa[List.flatMap_id]using this)
theorem Zhw (n:Int) (h:1<=n) (q : n<=8):oO n=some true:=(Aj _ _).trans (by
 simp only[Z9S,DN,decide_eq_true (show n>=1 from h),decide_eq_true q,cond_true])
theorem VG (j:Nat):(2:Int) ^ (8*j)=256 ^ j:=by rw[Int.pow_mul];rfl
theorem sh8 (v:Int) (j:Nat) (q:j<=8):Int.fdiv v (2 ^ (min (Int.toNat (AQ ((8:Int)*(j:Int)))) (IntKind.bits .u64)))=v / 256 ^ j:=by
 rw[E8 (by omega) (by omega),show Int.toNat (8*(j:Int))=8*j by omega,show min (8*j) (IntKind.bits .u64)=8*j from Nat.min_eq_left (by show 8*j<=64;omega),VG,Int.fdiv_eq_ediv_of_nonneg _ (Int.le_of_lt (by exact_mod_cast Nat.pow_pos (by decide)))]
theorem put3 (fs:List FB) (s:List Int) (n:Int) (i m:Nat) (x:FB) (hm:m<=8) (hs:s.length<=1000) (D:i<=1000):∀(d j:Nat),j+d=m ->
  AU MI (.b3 (s++num j x.Value) fs n i m j x)=AU MI (.b1 (s++num m x.Value) fs n ((i+1:Nat):Int)):=by
 intro d;induction d with
 | zero=>
  intro j A;obtain rfl:j=m:=by omega
  refine(Aj _ _).trans ?_;simp(disch:=omega) only[MI,Int.lt_irrefl,DN,SL,SM]
 | succ d C=>
  intro j A;rw[<- C (j+1) (by omega),Zgd,<- List.append_assoc];refine(Aj _ _).trans ?_;have q:j<m:=by omega
  have z:decide (0<=AQ (8*(j:Int)))=true:=decide_eq_true (by rw[E8 (by omega) (by omega)];omega);have hl:=KN j x.Value;simp(disch:=omega) only[MI,q,z,sh8,IntKind.wrap_u8,hl,DN,SL,SM]
def Ug (f:FB):List Int:=num f.Size.toNat f.Value
theorem Zil (fs:List FB) (hf:∀f∈fs,1<=f.Size/\f.Size<=8/\0<=f.Value/\f.Value<256 ^ f.Size.toNat) (hl:(fs.flatMap Ug).length<=1000) (G:fs.length<=1000) :
  bT fs=some (fs.flatMap Ug,0):=(Aj _ _).trans (by
 simp only[MI,DN,SL,SM];have:=Z3B (fun s i=>AU MI (.b1 s fs fs.length i)) fs Ug (fun s=>some (s,0)) 1000 (fun i s z hs=>(Aj _ _).trans (by
   obtain⟨C,D,A,F⟩:=hf fs[i] (List.getElem_mem z);simp(disch:=omega) only[MI,z,Zhw _ C D,DN,SL,SM];have key:AU MI (.b2 s fs fs.length i fs[i])=AU MI (.b1 (s++Ug fs[i]) fs fs.length ((i+1:Nat):Int)):=by
    refine(Aj _ _).trans ?_;simp(disch:=omega) only[MI,DN,SL,SM];have:=put3 fs s fs.length i fs[i].Size.toNat fs[i] (by omega) (by omega) (by omega) fs[i].Size.toNat 0 (by omega);simp only[num,List.append_nil]at this;rw[show ((fs[i].Size.toNat:Nat):Int)=fs[i].Size by omega]at this;exact this
   by_cases q:fs[i].Size<8
   ·have e:=sh8 fs[i].Value fs[i].Size.toNat (by omega);rw[show ((fs[i].Size.toNat:Nat):Int)=fs[i].Size by omega,Int.ediv_eq_zero_of_lt A F]at e;rw[e,decide_eq_true q,show decide (0<=AQ (8*fs[i].Size))=true from decide_eq_true (by rw[E8 (by omega) (by omega)];omega)];exact key
   ·rw[decide_eq_false q];exact key))
  (fun s=>(Aj _ _).trans (by simp only[MI,Int.lt_irrefl,DN,SL,SM])) [] (by simpa using hl)
 simpa using this)
theorem Zdf {α:Type} (f:α->List Int) (c:Nat) (xs:List α) (h:∀x∈xs,(f x).length=c):(xs.flatMap f).length=c*xs.length:=by
 induction xs with
 | nil=>simp
 | cons x xs z=>
  rw[List.flatMap_cons,List.length_append,h x List.mem_cons_self,z fun y q=>h y (List.mem_cons_of_mem _ q),List.length_cons,Nat.mul_succ];omega
theorem ZgL (xs:List Int) (z:∀x∈xs,Gn x) (hl:xs.length<=100):UT xs=some (xs.flatMap (num 8)):=(Aj _ _).trans (by
 simp only[dC,DN,SL,SM];have:=Z3B (fun s i=>AU dC (.b1 s xs xs.length i)) xs (fun x=>[(⟨8,x⟩:FB)]) (fun s=>(bT s).bind fun r=>some r.1) 1000 (fun i s A hs=>(Aj _ _).trans (by
   simp only[List.length_cons,List.length_nil]at hs;simp(disch:=omega) only[dC,A,DN,SL,SM]))
  (fun s=>(Aj _ _).trans (by simp only[dC,Int.lt_irrefl,DN,SL,SM];rfl)) [] (by
   rw[show (xs.flatMap fun x=>[(⟨8,x⟩:FB)])=xs.map fun x=>(⟨8,x⟩:FB) from(List.map_eq_flatMap).symm];simp;omega)
 refine this.trans ?_;rw[List.nil_append,show (xs.flatMap fun x=>[(⟨8,x⟩:FB)])=xs.map fun x=>(⟨8,x⟩:FB) from(List.map_eq_flatMap).symm];have e:(xs.map fun x=>(⟨8,x⟩:FB)).flatMap Ug=xs.flatMap (num 8):=by rw[List.flatMap_map];rfl
 rw[Zil _ (fun f hf=>by
  obtain⟨x,q,rfl⟩:=List.mem_map.1 hf;exact⟨show (1:Int)<=8 by decide,show (8:Int)<=8 by decide,(z x q).1,(z x q).2⟩) (by rw[e,Zdf _ 8 _ fun x _=>KN 8 x];omega) (by simp;omega),e]
 rfl)
theorem ZHz (m:Nat) (hm:m<=100) (v:Int) (h:Gn v):∀(d j:Nat),j+d=m->AU WX (.b1 m (v / 256 ^ j) (num j v) j)=some ⟨num m v⟩:=by
 intro d;induction d with
 | zero=>
  intro j A;obtain rfl:j=m:=by omega
  refine(Aj _ _).trans ?_;simp(disch:=omega) only[WX,Int.lt_irrefl,DN,SL,SM]
 | succ d C=>
  intro j A;have p:(0:Int)<256 ^ j:=by exact_mod_cast Nat.pow_pos (by decide)
  have q:0<=v / 256 ^ j:=Int.ediv_nonneg h.1 (Int.le_of_lt p);have D : v / 256 ^ j<18446744073709551616:=Int.lt_of_le_of_lt (Int.ediv_le_self _ h.1) h.2;have z:j<m:=by omega
  have hl:=KN j v;rw[<- C (j+1) (by omega),Zgd];refine(Aj _ _).trans ?_;simp(disch:=omega) only[WX,z,hl,Int.tmod_eq_emod_of_nonneg q,Int.tdiv_eq_ediv_of_nonneg q,DN,SL,SM];rw[Xx (by omega) (by omega),wu64 (by omega) (by omega),Int.ediv_ediv_of_nonneg (by omega),Int.pow_succ]
theorem yL (m:Nat) (hm:m<=100) (v:Int) (h:Gn v):ND m v=some ⟨num m v⟩:=(Aj _ _).trans (by
 simp only[WX,DN,SL,SM];have:=ZHz m hm v h m 0 (by omega);simpa[num]using this)
theorem ZDE (xs:List Int) (hb:Bytes xs) (hl:xs.length<=8):∀n:Nat,n<=xs.length->AU Vx (.b1 xs (val (xs.drop n)) ((n:Int) - 1))=some (val xs):=by
 intro n;induction n with
 | zero=>
  intro _;refine(Aj _ _).trans ?_;simp only[Vx,DN];rw[show decide (((0:Nat):Int) - 1>=0)=false from rfl];simp
 | succ n q=>
  intro F;have D:val (xs.drop n)=xs[n]+256*val (xs.drop (n+1)):=by rw[List.drop_eq_getElem_cons (show n<xs.length by omega)];rfl
  have z:=XE (hb.drop n) (by rw[List.length_drop];omega);have A:=XE (hb.drop (n+1)) (by rw[List.length_drop];omega);have C:=hb.get n (by omega);refine(Aj _ _).trans ?_;simp only[Vx,DN];rw[show ((n+1:Nat):Int) - 1=(n:Int) by omega,show decide ((n:Int)>=0)=true from decide_eq_true (by omega),show decide (0<=(n:Int)/\(n:Int)<(xs.length:Int))=true from decide_eq_true (by omega)];simp only[cond_true,Int.toNat_natCast,List.getElem?_eq_getElem (show n<xs.length by omega),Option.bind_some];rw[wu64 (n:=val (xs.drop (n+1))*256) (by omega) (by omega),wu64 (n:=xs[n]) (by omega) (by omega),wu64 (by omega) (by omega),E8 (by omega) (by omega),show val (xs.drop (n+1))*256+xs[n]=val (xs.drop n) by omega];exact q (by omega)
theorem ZFM (xs:List Int) (hb:Bytes xs) (hl:xs.length<=8):qQ xs=some (val xs):=(Aj _ _).trans (by
 simp only[Vx,DN];have:=ZDE xs hb hl xs.length (Nat.le_refl _);rw[List.drop_of_length_le (Nat.le_refl _)]at this;rw[E8 (by omega) (by omega)];exact this)
def zB (xs:List Int) (g:Nat):Int:=val ((xs.drop (8*g)).take 8)
theorem ZDs (ys:List Int) (hb:Bytes ys) (hl:ys.length<=8):∀m:Nat,m<=ys.length->KA ys m=val (ys.take m):=by
 intro m;induction m with
 | zero=>intro _;simp[KA,val]
 | succ m D=>
  intro hm;have C:=hb.get m (by omega);have z:=xU (hb.take m);have A:=XE (hb.take (m+1)) (by rw[List.length_take];omega);have e:val (ys.take (m+1))=val (ys.take m)+256 ^ m*ys[m]:=by
   rw[List.take_add_one,List.getElem?_eq_getElem (show m<ys.length by omega),val_append];simp[val,Nat.min_eq_left (show m<=ys.length by omega)]
  rw[List.length_take,Nat.min_eq_left (by omega)]at z;rw[e]at A;have q:0<=256 ^ m*ys[m]:=Int.mul_nonneg (Int.le_of_lt (by exact_mod_cast Nat.pow_pos (by decide))) C.1;rw[e,KA,D (by omega),List.getElem?_eq_getElem (show m<ys.length by omega),Option.getD_some,VG,Int.mul_comm ys[m],wu64 q (by omega)];refine Z4O .u64 64 (by decide) wraps_u64 (8*m) (by omega) _ _ q ?_ (by show _<(18446744073709551616:Int);omega) z.1 ?_
  ·rw[VG];exact Int.mul_emod_right _ _
  ·rw[VG];exact z.2
theorem ZB9 (xs:List Int) (hb:Bytes xs) (g:Nat):Jd xs g=zB xs g:=by
 unfold Jd zB;rw[ZDs _ ((hb.drop _).take _) (by rw[List.length_take];omega) _ (Nat.le_refl _),List.take_of_length_le (Nat.le_refl _)]
noncomputable def Uz (k:Int) (xs:List Int) (m g:Nat) (s:Int):Int:=(List.range' g m).foldl (fun s g=>Nk k (bits .xor .u64 s (zB xs g))) s
noncomputable def TF (k:Int) (xs:List Int):Int:=Uz k xs (gN xs) 0 (Nk k xs.length)
theorem ZEx (k:Int) (xs:List Int):∀m g s,Gn s->Gn (Uz k xs m g s):=by
 intro m;induction m with
 | zero=>intro g s h;exact h
 | succ m q=>
  intro g s h;rw[Uz,List.range'_succ];exact q (g+1) _ (wI _ _)
theorem Z43 (k:Int) (xs:List Int):Gn (TF k xs):=ZEx _ _ _ _ _ (wI _ _)
theorem Zi6 (k:Int) (xs:List Int) (hb:Bytes xs) (hl:xs.length<=100000):gY k xs=some (TF k xs):=by
 have key:∀(l:List Nat) (s:Int),l.foldlM (fun s g=>LH k (bits .xor .u64 s (Jd xs g))) s=some (l.foldl (fun s g=>Nk k (bits .xor .u64 s (zB xs g))) s):=by
  intro l;induction l with
  | nil=>intro s;rfl
  | cons g l q=>
   intro s;rw[List.foldlM_cons,XY,ZB9 xs hb];exact q _
 unfold gY Xc TF Uz;rw[if_pos (by omega),XY,Option.bind_some,key,List.range_eq_range']
theorem ZzY (k:Int) (hk:Gn k) (xs:List Int) (hb:Bytes xs) (hl:xs.length<=100000):∀(m g:Nat) (s:Int),m+g=gN xs->AU Wl (.b1 k xs s ((8*g:Nat):Int))=some (Uz k xs m g s):=by
 intro m;induction m with
 | zero=>
  intro g s q;unfold gN at q;refine(Aj _ _).trans ?_;simp(disch:=omega) only[Wl,DN,SL,SM];rfl
 | succ m F=>
  intro g s q;have C :=q;unfold gN at q;have D:8*g<xs.length:=by omega
  refine(Aj _ _).trans ?_;have z:(if (↑xs.length:Int)<(AQ (((8*g:Nat):Int)+8)) then (↑xs.length:Int) else (AQ (((8*g:Nat):Int)+8)))=((min (8*g+8) xs.length:Nat):Int):=by
   rw[E8 (by omega) (by omega)];split<;>omega
  have A:(xs.drop (8*g)).take (min (8*g+8) xs.length - 8*g)=(xs.drop (8*g)).take 8:=by
   by_cases h:8*g+8<=xs.length
   ·rw[Nat.min_eq_left h,show 8*g+8 - 8*g=8 by omega]
   ·rw[List.take_of_length_le (by rw[List.length_drop];omega),List.take_of_length_le (by rw[List.length_drop];omega)]
  simp only[Wl,DN,z];rw[decide_eq_true (show ((8*g:Nat):Int)<(xs.length:Int) by omega),decide_eq_true (show (0:Int)<=((min (8*g+8) xs.length:Nat):Int)/\((min (8*g+8) xs.length:Nat):Int)<=(xs.length:Int) by omega)];simp only[Int.toNat_natCast];rw[decide_eq_true (show (0:Int)<=((8*g:Nat):Int)/\((8*g:Nat):Int)<=((min (8*g+8) xs.length:Nat):Int) by omega),A,ZFM _ ((hb.drop _).take _) (by rw[List.length_take];omega)];simp only[cond_true,Option.bind_some];rw[uZ k _ hk (b64 _ _ _),Option.bind_some,E8 (by omega) (by omega),show ((8*g:Nat):Int)+8=((8*(g+1):Nat):Int) by omega,F (g+1) _ (by omega)];rw[Uz,Uz,List.range'_succ];rfl
theorem ZB6 (k:Int) (hk:Gn k) (xs:List Int) (hb:Bytes xs) (hl:xs.length<=100000):iD k xs=some (TF k xs):=(Aj _ _).trans (by
 simp only[Wl,DN];rw[wu64 (by omega) (by omega),uZ k _ hk ⟨by omega,by omega⟩,Option.bind_some];exact ZzY k hk xs hb hl (gN xs) 0 _ (by omega))
def Io (n z q:Int):Int:=bif decide (n<z) then 5 else bif decide (n>q) then 5 else 0
theorem Rq (n z q:Int):RN n z q=some (Io n z q):=(Aj _ _).trans (by
 simp only[Z8L,DN];unfold Io;cases decide (n<z)<;>cases decide (n>q)<;>rfl)
theorem ZfA (u:DR):nO u=some ⟨[IntKind.wrap .u64 u.FP,IntKind.wrap .u64 u.FC,IntKind.wrap .u64 u.E5,IntKind.wrap .u64 u.C9,IntKind.wrap .u64 u.FY]⟩:=(Aj _ _).trans rfl
theorem Zeg (a b c d e:Int) (r:List Int):nN (a::b::c::d::e::r)=some ⟨AQ a,AQ b,AQ c,AQ d,AQ e⟩:=(Aj _ _).trans (by
 have h:∀j:Int,0<=j->j<5->decide (0<=j/\j<(((a::b::c::d::e::r).length:Nat):Int))=true:=fun j q z=>decide_eq_true ⟨q,by simp only[List.length_cons];omega⟩;simp only[Z8x,DN,h 0 (by decide) (by decide),h 1 (by decide) (by decide),h 2 (by decide) (by decide),h 3 (by decide) (by decide),h 4 (by decide) (by decide),cond_true];rfl)
theorem MX (c:AO):V8 c=some []:=(Aj _ _).trans (rfl)
theorem MH (c:AO):lY c=some [c.D7]:=(Aj _ _).trans (rfl)
theorem LD (c:AO):mX c=some [IntKind.wrap .u64 c.Length]:=(Aj _ _).trans (rfl)
theorem LZ (c:AO):Z07 c=some [IntKind.wrap .u64 c.BL.FP,IntKind.wrap .u64 c.BL.FC,IntKind.wrap .u64 c.BL.E5,IntKind.wrap .u64 c.BL.C9,IntKind.wrap .u64 c.BL.FY,IntKind.wrap .u64 c.DZ]:=(Aj _ _).trans (by
 simp only[Z8F,DN,ZfA,Option.bind_some];rfl)
theorem L6 (c:AO):Z0a c=some [c.Map,IntKind.wrap .u64 c.DZ]:=(Aj _ _).trans (rfl)
theorem LV (c:AO):ZV c=some [IntKind.wrap .u64 c.BL.FP,IntKind.wrap .u64 c.BL.FC,IntKind.wrap .u64 c.BL.E5,IntKind.wrap .u64 c.BL.C9,IntKind.wrap .u64 c.BL.FY]:=(Aj _ _).trans (by
 simp only[Z8K,DN,ZfA,Option.bind_some];rfl)
theorem MP (c:AO):ZG c=some [IntKind.wrap .u64 c.CQ]:=(Aj _ _).trans (rfl)
theorem MW (c:AO):ZM c=some [c.CZ,c.Mark]:=(Aj _ _).trans (rfl)
theorem ML (c:AO):Zx c=some [c.CZ]:=(Aj _ _).trans (rfl)
theorem MN (c:AO):ZH c=some [IntKind.wrap .u64 c.ER]:=(Aj _ _).trans (rfl)
theorem MQ (c:AO):Zq c=some [IntKind.wrap .u64 c.Version]:=(Aj _ _).trans (rfl)
theorem MM (c:AO):Zz c=some [IntKind.wrap .u64 c.CQ,IntKind.wrap .u64 c.ER]:=(Aj _ _).trans (rfl)
theorem LW (l:List Int) (u:AO):JU l u=some ⟨u⟩:=(Aj _ _).trans rfl
theorem Ky (a:Int) (u:AO):O7 [a] u=some ⟨{ u with D7:=a }⟩:=(Aj _ _).trans (rfl)
theorem KF (a:Int) (u:AO):O8 [a] u=some ⟨{ u with Length:=AQ a }⟩:=(Aj _ _).trans (rfl)
theorem KI (a b c d e f:Int) (u:AO):UB [a,b,c,d,e,f] u=some ⟨{ u with BL:=⟨AQ a,AQ b,AQ c,AQ d,AQ e⟩,DZ:=IntKind.wrap .u16 f }⟩:=(Aj _ _).trans (by
 simp only[Z8G,DN,Zeg,Option.bind_some]
 all_goals rfl)
theorem KG (a b:Int) (u:AO):UD [a,b] u=some ⟨{ u with Map:=a,DZ:=IntKind.wrap .u16 b }⟩:=(Aj _ _).trans (rfl)
theorem KH (a b c d e:Int) (u:AO):UJ [a,b,c,d,e] u=some ⟨{ u with BL:=⟨AQ a,AQ b,AQ c,AQ d,AQ e⟩ }⟩:=(Aj _ _).trans (by
 simp only[Z8n,DN,Zeg,Option.bind_some]
 all_goals rfl)
theorem LG (a:Int) (u:AO):Tu [a] u=some ⟨{ u with CQ:=AQ a }⟩:=(Aj _ _).trans (rfl)
theorem LP (a b:Int) (u:AO):Tz [a,b] u=some ⟨{ u with CZ:=a,Mark:=b }⟩:=(Aj _ _).trans (rfl)
theorem LK (a:Int) (u:AO):Tm [a] u=some ⟨{ u with CZ:=a }⟩:=(Aj _ _).trans (rfl)
theorem LC (a:Int) (u:AO):UA [a] u=some ⟨{ u with ER:=AQ a }⟩:=(Aj _ _).trans (rfl)
theorem LJ (a:Int) (u:AO):Tv [a] u=some ⟨{ u with Version:=AQ a }⟩:=(Aj _ _).trans (rfl)
theorem LQ (a b:Int) (u:AO):Tn [a,b] u=some ⟨{ u with CQ:=AQ a,ER:=AQ b }⟩:=(Aj _ _).trans (rfl)
theorem NI (c:AO):Ob c=some (0):=(Aj _ _).trans (by
 simp only[Zaj,DN,Rq,RG,Option.bind_some])
theorem LM (c:AO):mP c=some (Io c.Length 27 251):=(Aj _ _).trans (by
 simp only[Z83,DN,Rq,RG,Option.bind_some])
theorem LY (c:AO):Z02 c=some (Hu c.BL):=(Aj _ _).trans (by
 simp only[Z8C,DN,Rq,RG,Option.bind_some])
theorem Ze7 (c:AO) (h:0<=c.Map/\c.Map<18446744073709551616):Z0b c=some (JI c.Map):=(Aj _ _).trans (by
 have:=ZpL c.Map.toNat (by omega);rw[Int.toNat_of_nonneg h.1]at this;simp only[Z8I,DN,this,Option.bind_some])
theorem LU (c:AO):ZT c=some (Hu c.BL):=(Aj _ _).trans (by
 simp only[Z8D,DN,Rq,RG,Option.bind_some])
theorem MV (c:AO):ZP c=some (Io c.CQ 0 255):=(Aj _ _).trans (by
 simp only[Z86,DN,Rq,RG,Option.bind_some])
theorem MR (c:AO):ZI c=some (Io c.ER 0 255):=(Aj _ _).trans (by
 simp only[Z87,DN,Rq,RG,Option.bind_some])
theorem MJ (c:AO):Zy c=some (Io c.Version 0 255):=(Aj _ _).trans (by
 simp only[Z85,DN,Rq,RG,Option.bind_some])
theorem MK (c:AO):Zu c=some ((if Io c.ER 0 255>Io c.CQ 0 255 then Io c.ER 0 255 else Io c.CQ 0 255)):=(Aj _ _).trans (by
 simp only[Z8d,DN,Rq,RG,Option.bind_some])
theorem ww {x:Int} (h:0<=x) (q : x<9223372036854775808):AQ (IntKind.wrap .u64 x)=x:=by rw[wu64 h (by omega),E8 (by omega) (by omega)]
theorem yZ {x:Int} (h:R16 x):IntKind.wrap .u16 (IntKind.wrap .u64 x)=x:=by rw[wu64 h.1 (by have:=h.2;omega),wu16 h.1 h.2]
theorem Zis {n z q:Int} (h:z<=n) (A : n<=q):Io n z q=0:=by unfold Io;rw[decide_eq_false (by omega),decide_eq_false (by omega)];rfl
theorem kQ {n:Int} (h:R8 n):Io n 0 255=0:=Zis h.1 (by have:=h.2;omega)
theorem J7 (c:AO):eqC c c=true:=by simp[eqC]
theorem XZ {u:DR} (h:Hu u=0):1<=u.FP/\u.FP<=8/\0<=u.FC/\u.FC<=3200/\6<=u.E5/\u.E5<=3200/\0<=u.C9/\u.C9<=499/\10<=u.FY/\u.FY<=3200:=by
 unfold Hu at h
 by_cases hb:(!(inB u.FP 1 8&&inB u.FC 0 3200&&inB u.E5 6 3200&&inB u.C9 0 499&&inB u.FY 10 3200))=true
 ·rw[if_pos hb]at h;cases h
 ·simp[inB]at hb;omega
theorem Zpw {c:AO} (h:CV c):OA c=some 0:=by
 have hf:QC=some ():=rfl;refine(Aj _ _).trans ?_;cases h
 case upd u i q h2=>
  have hb:=XZ q;simp only[JF,F7,DN,hf,Option.bind_some,MH,Ky,NI,LZ,MP,LG,MV,MW,LP,ML,LK,MN,LC,MR,KI,MQ,LJ,MJ,MM,LQ,MK,LY,L6,KG,LV,KH,LU,LD,KF,LM,MX,LW,ww (show 0<=u.FP by omega) (by omega),ww (show 0<=u.FC by omega) (by omega),ww (show 0<=u.E5 by omega) (by omega),ww (show 0<=u.C9 by omega) (by omega),ww (show 0<=u.FY by omega) (by omega),yZ h2,J7,Int.reduceBEq,Int.reduceEq,beq_self_eq_true,Bool.and_self,Bool.not_true,cond_true,cond_false, *]
 case map m i q h2 h3=>
  simp only[JF,F7,DN,hf,Option.bind_some,MH,Ky,NI,LZ,MP,LG,MV,MW,LP,ML,LK,MN,LC,MR,KI,MQ,LJ,MJ,MM,LQ,MK,LY,L6,KG,LV,KH,LU,LD,KF,LM,MX,LW,yZ h3,Ze7 (⟨1,CE,m,i,0,0,0,0,0,0,0⟩:AO) q,J7,Int.reduceBEq,Int.reduceEq,beq_self_eq_true,Bool.and_self,Bool.not_true,cond_true,cond_false, *]
 case term r q=>simp only[JF,F7,DN,hf,Option.bind_some,MH,Ky,NI,LZ,MP,LG,MV,MW,LP,ML,LK,MN,LC,MR,KI,MQ,LJ,MJ,MM,LQ,MK,LY,L6,KG,LV,KH,LU,LD,KF,LM,MX,LW,ww q.1 (Int.lt_trans q.2 (by decide)),kQ q,J7,Int.reduceBEq,Int.reduceEq,beq_self_eq_true,Bool.and_self,Bool.not_true,cond_true,cond_false, *]
 case enc s m q h2=>simp only[JF,F7,DN,hf,Option.bind_some,MH,Ky,NI,LZ,MP,LG,MV,MW,LP,ML,LK,MN,LC,MR,KI,MQ,LJ,MJ,MM,LQ,MK,LY,L6,KG,LV,KH,LU,LD,KF,LM,MX,LW,J7,Int.reduceBEq,Int.reduceEq,beq_self_eq_true,Bool.and_self,Bool.not_true,cond_true,cond_false, *]
 case ans s q=>simp only[JF,F7,DN,hf,Option.bind_some,MH,Ky,NI,LZ,MP,LG,MV,MW,LP,ML,LK,MN,LC,MR,KI,MQ,LJ,MJ,MM,LQ,MK,LY,L6,KG,LV,KH,LU,LD,KF,LM,MX,LW,J7,Int.reduceBEq,Int.reduceEq,beq_self_eq_true,Bool.and_self,Bool.not_true,cond_true,cond_false, *]
 case plain k q=>rcases q with rfl|rfl|rfl|rfl<;>simp only[JF,F7,DN,hf,Option.bind_some,MH,Ky,NI,LZ,MP,LG,MV,MW,LP,ML,LK,MN,LC,MR,KI,MQ,LJ,MJ,MM,LQ,MK,LY,L6,KG,LV,KH,LU,LD,KF,LM,MX,LW,J7,Int.reduceBEq,Int.reduceEq,beq_self_eq_true,Bool.and_self,Bool.not_true,cond_true,cond_false, *]
 case VK r q=>simp only[JF,F7,DN,hf,Option.bind_some,MH,Ky,NI,LZ,MP,LG,MV,MW,LP,ML,LK,MN,LC,MR,KI,MQ,LJ,MJ,MM,LQ,MK,LY,L6,KG,LV,KH,LU,LD,KF,LM,MX,LW,ww q.1 (Int.lt_trans q.2 (by decide)),kQ q,J7,Int.reduceBEq,Int.reduceEq,beq_self_eq_true,Bool.and_self,Bool.not_true,cond_true,cond_false, *]
 case kK k f q h2=>rcases q with rfl|rfl<;>simp only[JF,F7,DN,hf,Option.bind_some,MH,Ky,NI,LZ,MP,LG,MV,MW,LP,ML,LK,MN,LC,MR,KI,MQ,LJ,MJ,MM,LQ,MK,LY,L6,KG,LV,KH,LU,LD,KF,LM,MX,LW,J7,Int.reduceBEq,Int.reduceEq,beq_self_eq_true,Bool.and_self,Bool.not_true,cond_true,cond_false, *]
 case Xr v q=>simp only[JF,F7,DN,hf,Option.bind_some,MH,Ky,NI,LZ,MP,LG,MV,MW,LP,ML,LK,MN,LC,MR,KI,MQ,LJ,MJ,MM,LQ,MK,LY,L6,KG,LV,KH,LU,LD,KF,LM,MX,LW,ww q.1 (Int.lt_trans q.2 (by decide)),kQ q,J7,Int.reduceBEq,Int.reduceEq,beq_self_eq_true,Bool.and_self,Bool.not_true,cond_true,cond_false, *]
 case VS r k q h2=>simp only[JF,F7,DN,hf,Option.bind_some,MH,Ky,NI,LZ,MP,LG,MV,MW,LP,ML,LK,MN,LC,MR,KI,MQ,LJ,MJ,MM,LQ,MK,LY,L6,KG,LV,KH,LU,LD,KF,LM,MX,LW,ww q.1 (Int.lt_trans q.2 (by decide)),kQ q,ww h2.1 (Int.lt_trans h2.2 (by decide)),kQ h2,Int.lt_irrefl,ite_self,J7,Int.reduceBEq,Int.reduceEq,beq_self_eq_true,Bool.and_self,Bool.not_true,cond_true,cond_false, *]
 case par u q=>
  have hb:=XZ q;simp only[JF,F7,DN,hf,Option.bind_some,MH,Ky,NI,LZ,MP,LG,MV,MW,LP,ML,LK,MN,LC,MR,KI,MQ,LJ,MJ,MM,LQ,MK,LY,L6,KG,LV,KH,LU,LD,KF,LM,MX,LW,ww (show 0<=u.FP by omega) (by omega),ww (show 0<=u.FC by omega) (by omega),ww (show 0<=u.E5 by omega) (by omega),ww (show 0<=u.C9 by omega) (by omega),ww (show 0<=u.FY by omega) (by omega),J7,Int.reduceBEq,Int.reduceEq,beq_self_eq_true,Bool.and_self,Bool.not_true,cond_true,cond_false, *]
 case len k n q h2 h3=>rcases q with rfl|rfl<;>simp only[JF,F7,DN,hf,Option.bind_some,MH,Ky,NI,LZ,MP,LG,MV,MW,LP,ML,LK,MN,LC,MR,KI,MQ,LJ,MJ,MM,LQ,MK,LY,L6,KG,LV,KH,LU,LD,KF,LM,MX,LW,ww (show 0<=n by omega) (by omega),Zis h2 h3,J7,Int.reduceBEq,Int.reduceEq,beq_self_eq_true,Bool.and_self,Bool.not_true,cond_true,cond_false, *]
def Cj (l:List Int):Prop:=∀b∈l,R8 b
theorem ZhO (n:Int):R8 (IntKind.wrap .u8 n):=by unfold R8;rw[IntKind.wrap_u8];omega
theorem Zh9 (n:Int):R16 (IntKind.wrap .u16 n):=by unfold R16;rw[IntKind.wrap_u16];omega
theorem ZgU (n:Int):R32 (IntKind.wrap .u32 n):=by unfold R32;rw[IntKind.wrap_u32];omega
theorem GG (n:Int):CO (IntKind.wrap .u64 n):=by unfold CO;rw[IntKind.wrap_u64];omega
theorem ZGh (o:BinOp) (a b:Int):R8 (bits o .u8 a b):=ZhO _
theorem ZEj (o:BinOp) (a b:Int):R16 (bits o .u16 a b):=Zh9 _
theorem ZEO (o:BinOp) (a b:Int):R32 (bits o .u32 a b):=ZgU _
theorem ZgZ (o:BinOp) (a b:Int):CO (bits o .u64 a b):=GG _
theorem Ii:CO 0:=by unfold CO;omega
theorem ZGi:CO 63:=by unfold CO;omega
theorem kF:R16 0:=by unfold R16;omega
theorem Z4T:R32 0:=by unfold R32;omega
theorem Zhe:Cj []:=fun _ h=>nomatch h
theorem ZEs (a b:List Int):Cj (a++b)↔Cj a/\Cj b:=by simp only[Cj,List.mem_append];exact⟨fun h=>⟨fun x q=>h x (.inl q),fun x q=>h x (.inr q)⟩,fun h x q=>q.elim (h.1 x) (h.2 x)⟩
theorem ZD5 (a:Int) (b:List Int):Cj (a::b)↔R8 a/\Cj b:=by simp only[Cj,List.mem_cons,forall_eq_or_imp]
theorem ZDU (n:Nat) (l:List Int) (h:Cj l):Cj (l.take n):=fun x q=>h x (List.mem_of_mem_take q)
theorem ZDx (n:Nat) (l:List Int) (h:Cj l):Cj (l.drop n):=fun x q=>h x (List.mem_of_mem_drop q)
theorem ZFQ {l:List Int} (h:Cj l) {x:Int} (q:x∈l):R8 x:=h x q
theorem Zy6 (xs:List Int):Le.bytesOf (xs.map (U.enc 5))=some (xs.map fun n=>UInt8.ofNat n.toNat):=by
 induction xs with
 | nil=>rfl
 | cons x xs z=>
  rw[List.map_cons];show (match Le.byteOf (U.enc 5 x),Le.bytesOf (xs.map (U.enc 5)) with|some b,some q=>some (b::q)|_,_=>none)=_;rw[z];rfl
theorem GX (xs:List Int) (h:xs.length<=1000000):NG U 5 xs=true:=by
 unfold NG;rw[Zy6];exact decide_eq_true (by rw[List.length_map];exact Nat.le_trans (Nat.le_trans h (by decide)) (by decide:1000000000<=maxLen))
def Ce (c:AO):Prop:=CO c.Map/\R16 c.DZ/\CO c.CZ/\CO c.Mark/\CO c.D7/\0<=c.Kind
theorem CV.ct {c:AO} (h:CV c):Ce c:=by
 cases h<;>refine⟨?_,?_,?_,?_,?_,?_⟩<;>first|assumption|exact Ii|exact kF|(dsimp only;omega)
theorem CV.unkK (k:Int):CV ⟨7,CE,0,0,0,(if (255:Int)<(if (0:Int)>k then (0:Int) else k) then (255:Int) else (if (0:Int)>k then (0:Int) else k)),0,0,0,0,0⟩:=CV.VK _ (by unfold R8;split<;>split<;>omega)
theorem CV.unkW {x:Int} (h:R8 x):CV ⟨7,CE,0,0,0,AQ x,0,0,0,0,0⟩:=by obtain⟨q,z⟩:=h;rw[Bv (by omega) (by omega)];exact CV.VK _ ⟨q,z⟩
theorem CV.rejK:CV ⟨13,CE,0,0,6,3,0,0,0,0,0⟩:=CV.VS _ _ ⟨by decide,by decide⟩ ⟨by decide,by decide⟩
theorem CV.rejC:CV ⟨13,CE,0,0,42,15,0,0,0,0,0⟩:=CV.VS _ _ ⟨by decide,by decide⟩ ⟨by decide,by decide⟩
theorem CV.verK:CV ⟨12,CE,0,0,0,0,0,0,0,11,0⟩:=CV.Xr _ ⟨by decide,by decide⟩
def Gm (n:Int):Prop:=0<=n/\n<=499
def Hr (c:BC):Prop:=CO c.Map/\R16 c.DZ/\(c.Kind≠1->Gm c.BL.C9)
theorem CV.chg {c:AO} (h:CV c) (hk:c.Kind=0\/c.Kind=1):Hr ⟨c.Kind,c.DZ,c.BL,c.Map⟩:=by
 cases h<;>first|(exfalso;dsimp only at hk;omega)|skip
 ·rename_i u i q z;exact⟨Ii,z,fun _=>⟨(XZ q).2.2.2.2.2.2.1,(XZ q).2.2.2.2.2.2.2.1⟩⟩
 ·rename_i m i q z A;exact⟨q,A,fun h=>absurd rfl h⟩
theorem CV.chgI {c:AO} {i:Int} (h:CV c) (hk:c.Kind=0\/c.Kind=1) (q:R16 i):Hr ⟨c.Kind,i,c.BL,c.Map⟩:=⟨(h.chg hk).1,q,(h.chg hk).2.2⟩
theorem ZCC {a b:Int} (h:a<b) (q:Gm b) (z:Gm a):Gm (AQ (a+1)):=by
 have A:=q.2;have C:=z.1;rw[Bv (by omega) (by omega)];exact⟨by omega,by omega⟩
def F6 (l:List AO):Prop:=∀c∈l,CV c
def EY (l:List BC):Prop:=∀c∈l,Hr c
def Be (p:Az):Prop:=p.Payload.length<=65536/\Cj p.Payload
def ES (p:Az):Prop:=1<=p.Bz/\p.Bz<=3/\1<=p.Payload.length/\p.Payload.length<=251/\Cj p.Payload
def KC (l:List Az):Prop:=∀p∈l,ES p
def EG (n:Int):Prop:=n=0\/n=1
theorem ZHI:EG 0:=.inl rfl
theorem ZGs:EG 1:=.inr rfl
theorem ZAS {n:Int} (h:EG n):EG (AQ (1 - n)):=by rcases h with rfl|rfl<;>first|exact .inr rfl|exact .inl rfl
def Cm (a:BR):Prop:=EG a.SN/\EG a.EI/\a.Ap.length<=64/\KC a.Ap/\(a.Open=true->a.Empty=false->0<a.Ap.length)
def BF (s:AZ):Prop:=s.A8.length<=8/\s.Aq.length<=1/\F6 s.A8/\EY s.Aq/\CO s.D7/\CO s.CZ/\CO s.Gw/\CO s.Mark/\EG s.CB /\ -1<=s.Own /\ -1<=s.Other/\27<=s.Limit/\s.Limit<=251
def FN (s:Bq):Prop:=CO s.Key/\CO s.CZ/\CO s.Tx/\CO s.Rx
def JD (p:FO):Prop:=R32 p.Jq/\R32 p.VE/\CO p.Map
def zG (l:Ad):Prop:=l.DY.C9=l.Df.BL.C9/\Gm l.DY.C9/\Gm l.DY.EJ
def lkB (k:Int) (l:Ad):Prop:=Cm l.Ar/\BF l.AA/\FN l.EL/\JD l.Df/\(l.Ac.length:Int)<=k/\F6 l.Ac/\l.DJ.length<=37/\R16 l.Event/\CO l.Key/\CO l.Hq/\EG l.CB
def BV (k:Int) (l:Ad):Prop:=Cm l.Ar/\BF l.AA/\FN l.EL/\JD l.Df/\(l.Ac.length:Int)<=k/\F6 l.Ac/\l.DJ.length<=37/\R16 l.Event/\CO l.Key/\CO l.Hq/\EG l.CB/\zG l
def Ed (k:Int) (l:Ad):Prop:=Cm l.Ar/\BF l.AA/\FN l.EL/\JD l.Df/\(l.Ac.length:Int)<=k/\l.DJ.length<=37/\R16 l.Event/\CO l.Key/\EG l.CB
def Ba (k:Int) (l:Ad):Prop:=Cm l.Ar/\BF l.AA/\FN l.EL/\JD l.Df/\(l.Ac.length:Int)<=k/\l.DJ.length<=37/\R16 l.Event/\CO l.Key/\EG l.CB/\zG l
theorem Fh {a b:Int} {l:Ad} (h:Ba a l) (q:a<=b):Ba b l:=⟨h.1,h.2.1,h.2.2.1,h.2.2.2.1,Int.le_trans h.2.2.2.2.1 q,h.2.2.2.2.2⟩
theorem ZHw {k:Int} {l:Ad} (h:BV k l):Ba k l:=⟨h.1,h.2.1,h.2.2.1,h.2.2.2.1,h.2.2.2.2.1,h.2.2.2.2.2.2.1,h.2.2.2.2.2.2.2.1,h.2.2.2.2.2.2.2.2.1,h.2.2.2.2.2.2.2.2.2.2⟩
def IE (l:List Au):Prop:=∀x∈l,x.Aw.Payload.length<=65536
theorem ZFr:IE []:=fun _ h=>nomatch h
theorem ZFE (a b:List Au):IE (a++b)↔IE a/\IE b:=by simp only[IE,List.mem_append];exact⟨fun h=>⟨fun x q=>h x (.inl q),fun x q=>h x (.inr q)⟩,fun h x q=>q.elim (h.1 x) (h.2 x)⟩
theorem ZDO (a:Au) (b:List Au):IE (a::b)↔a.Aw.Payload.length<=65536/\IE b:=by simp only[IE,List.mem_cons,forall_eq_or_imp]
theorem ZF8 {l:List Au} (h:IE l) {x:Au} (q:x∈l):x.Aw.Payload.length<=65536:=h x q
def Bh (a b:Nat) (s:BD):Prop:=BF s.AA/\R16 s.FX/\s.f_out.length<=a/\s.BG.length<=b/\IE s.BG
def EW (a:Hw):Prop:=Be a.Aw/\a.Aw.Payload.length<=4096/\CO a.Map/\CO a.Number/\CO a.Key
def zN (a:Hw):Prop:=Cj a.Aw.Payload/\CO a.Map/\CO a.Number/\CO a.Key
def JR (e:FT):Prop:=∀a∈e.TB,zN a
theorem ZDX {e:FT} (h:JR e) {a:Hw} (q:a∈e.TB):zN a:=h a q
def DW (k:Int) (s:DD):Prop:=BV k s.x0/\BV k s.x1
theorem Fz {a b:Int} {l:Ad} (h:BV a l) (q:a<=b):BV b l:=⟨h.1,h.2.1,h.2.2.1,h.2.2.2.1,Int.le_trans h.2.2.2.2.1 q,h.2.2.2.2.2⟩
theorem GM {a b:Int} {s:DD} (h:DW a s) (q:a<=b):DW b s:=⟨Fz h.1 q,Fz h.2 q⟩
def evL (l:List FT):Prop:=∀e∈l,JR e
theorem ZEN {l:List FT} (h:evL l) {e:FT} (q:e∈l):JR e:=h e q
def EE (x:JV):Prop:=JD x.Df/\CO x.Keys.x0/\CO x.Keys.x1/\evL x.Events
def IZ (l:List Int):Prop:=∀x∈l,0<=x/\x<=36
theorem ZD2:IZ []:=fun _ h=>nomatch h
theorem ZDd (a b:List Int):IZ (a++b)↔IZ a/\IZ b:=by simp only[IZ,List.mem_append];exact⟨fun h=>⟨fun x q=>h x (.inl q),fun x q=>h x (.inr q)⟩,fun h x q=>q.elim (h.1 x) (h.2 x)⟩
theorem ZCj (a:Int) (b:List Int):IZ (a::b)↔(0<=a/\a<=36)/\IZ b:=by simp only[IZ,List.mem_cons,forall_eq_or_imp]
theorem ZAY (n:Nat) (l:List Int) (h:IZ l):IZ (l.take n):=fun x q=>h x (List.mem_of_mem_take q)
theorem ZBl (n:Nat) (l:List Int) (h:IZ l):IZ (l.drop n):=fun x q=>h x (List.mem_of_mem_drop q)
theorem ZCB {l:List Int} (h:IZ l) {x:Int} (q:x∈l):0<=x/\x<=36:=h x q
theorem ZET:F6 []:=fun _ h=>nomatch h
theorem ZEE (a b:List AO):F6 (a++b)↔F6 a/\F6 b:=by simp only[F6,List.mem_append];exact⟨fun h=>⟨fun x q=>h x (.inl q),fun x q=>h x (.inr q)⟩,fun h x q=>q.elim (h.1 x) (h.2 x)⟩
theorem ZD3 (a:AO) (b:List AO):F6 (a::b)↔CV a/\F6 b:=by simp only[F6,List.mem_cons,forall_eq_or_imp]
theorem ZDe (n:Nat) (l:List AO) (h:F6 l):F6 (l.take n):=fun x q=>h x (List.mem_of_mem_take q)
theorem ZCA (n:Nat) (l:List AO) (h:F6 l):F6 (l.drop n):=fun x q=>h x (List.mem_of_mem_drop q)
theorem ZG3 {l:List AO} (h:F6 l) {x:AO} (q:x∈l):CV x:=h x q
theorem iW:EY []:=fun _ h=>nomatch h
theorem ZCY (a b:List BC):EY (a++b)↔EY a/\EY b:=by simp only[EY,List.mem_append];exact⟨fun h=>⟨fun x q=>h x (.inl q),fun x q=>h x (.inr q)⟩,fun h x q=>q.elim (h.1 x) (h.2 x)⟩
theorem ZCb (a:BC) (b:List BC):EY (a::b)↔Hr a/\EY b:=by simp only[EY,List.mem_cons,forall_eq_or_imp]
theorem ZD1 {l:List BC} (h:EY l) {x:BC} (q:x∈l):Hr x:=h x q
theorem Zhs:KC []:=fun _ h=>nomatch h
theorem ZF5 (a b:List Az):KC (a++b)↔KC a/\KC b:=by simp only[KC,List.mem_append];exact⟨fun h=>⟨fun x q=>h x (.inl q),fun x q=>h x (.inr q)⟩,fun h x q=>q.elim (h.1 x) (h.2 x)⟩
theorem ZDS (a:Az) (b:List Az):KC (a::b)↔ES a/\KC b:=by simp only[KC,List.mem_cons,forall_eq_or_imp]
theorem ZDK (n:Nat) (l:List Az) (h:KC l):KC (l.take n):=fun x q=>h x (List.mem_of_mem_take q)
theorem ZDN (n:Nat) (l:List Az) (h:KC l):KC (l.drop n):=fun x q=>h x (List.mem_of_mem_drop q)
theorem ZEl {l:List Az} (h:KC l) {x:Az} (q:x∈l):ES x:=h x q
theorem ZEp:Cm KJ:=⟨.inl rfl,.inl rfl,Nat.zero_le _,Zhs,fun h=>nomatch h⟩
theorem ZGm:FN MG:=⟨Ii,Ii,Ii,Ii⟩
theorem ZGg:JD Z9a:=⟨Z4T,Z4T,Ii⟩
theorem ZGK:Ce EZ:=⟨Ii,kF,Ii,Ii,Ii,by decide⟩
theorem ZGt:Hr Jl:=⟨Ii,kF,fun _=>⟨by decide,by decide⟩⟩
theorem ZIy:Be Dk.Aw:=⟨Nat.zero_le _,Zhe⟩
def Eu:List CP:=[⟨true,true,false,true,false,false,false,false,false,false,false⟩,⟨true,false,true,true,false,false,false,false,false,false,false⟩,⟨true,false,false,false,true,false,false,false,false,false,false⟩,⟨true,false,false,false,false,false,true,true,false,false,false⟩,⟨true,false,false,false,false,false,true,false,false,false,false⟩,⟨true,false,false,false,false,false,false,false,false,false,false⟩,⟨true,false,false,false,false,true,false,false,false,false,false⟩,⟨true,false,false,false,false,false,false,false,true,false,false⟩,⟨true,false,false,false,false,false,false,false,false,true,false⟩,⟨true,false,false,false,true,true,false,false,false,false,false⟩,⟨true,true,false,false,false,false,false,false,false,false,false⟩,⟨true,false,false,false,false,false,false,false,false,false,true⟩,⟨false,false,false,false,false,false,false,false,false,false,false⟩]
def Di (u:CP):Prop:=u∈Eu
def IQ (u:CP):Int:=1+cond u.BL 9 0+cond u.Map 5 0+cond u.DZ 2 0+cond (u.CQ||u.Version||u.Length) 1 0+cond u.ER 1 0+cond (u.CZ||u.D7) 8 0+cond u.Mark 8 0
theorem ZCR {l:List Int} {v:Int} (h:Cj l) (z:v∈l):Ce ⟨AQ v,CE,0,0,0,0,0,0,0,0,0⟩:=by
 obtain⟨q,A⟩:=h v z;refine⟨Ii,kF,Ii,Ii,Ii,?_⟩;show 0<=AQ v;rw[Bv (by omega) (by omega)];exact q
attribute [grind] Gm zG lkB BV Ba Ed Bh Cm BF FN JD Ce Hr EW zN DW EE Be ES
attribute [grind .] CV.upd CV.map CV.term CV.enc CV.ans CV.plain CV.VK CV.kK CV.Xr CV.VS CV.par CV.len CV.inst CV.chg CV.chgI CV.unkK CV.unkW CV.rejK CV.rejC CV.verK ZHI ZGs ZhO Zh9 ZgU GG ZGh ZEj ZEO ZgZ ZEp ZGm ZGg ZGK ZGt ZIy Ii ZGi kF Z4T Zhe ZDU ZDx ZD2 ZAY ZBl ZET ZDe ZCA iW Zhs ZDK ZDN ZFr
attribute [grind =] ZEs ZD5 List.length_take List.length_drop ZDd ZCj ZEE ZD3 ZCY ZCb ZF5 ZDS ZFE ZDO
attribute [grind ->] CV.ct CV.ZI3 ZAS ZDX ZEN ZFQ ZCB ZG3 ZD1 ZEl ZF8
theorem Z7C (p0:List Int) (h:p0.length<=1000000):∃r,Jk p0=some r/\r.q0=p0:=⟨⟨p0⟩,if_pos ⟨by rw[Cb];omega,by rw[maxLen_eq];omega⟩,rfl⟩
theorem Z5 (p0:List AO) (h:p0.length<=1000000):∃r,VV p0=some r/\r.q0=p0:=⟨⟨p0⟩,if_pos ⟨by rw[Cb];omega,by rw[maxLen_eq];omega⟩,rfl⟩
theorem Zc (p0:List BC) (h:p0.length<=1000000):∃r,TU p0=some r/\r.q0=p0:=⟨⟨p0⟩,if_pos ⟨by rw[Cb];omega,by rw[maxLen_eq];omega⟩,rfl⟩
theorem Zlp (p0:List BO) (h:p0.length<=1000000):∃r,lW p0=some r/\r.q0=p0:=⟨⟨p0⟩,if_pos ⟨by rw[Cb];omega,by rw[maxLen_eq];omega⟩,rfl⟩
theorem ZIv {L:Type} {t:Nat} {l:List (U.Ty t)} {i:Int} {k:U.Ty t->Tr U L} {Q:L->Prop} (h:0<=i/\i<(l.length:Int)) (g:∀q:i.toNat<l.length,Tot (k l[i.toNat]) Q):Tot (.bind t (l[Int.toNat i]?) k) Q:=by
 have q:i.toNat<l.length:=by omega
 exact⟨l[i.toNat],List.getElem?_eq_getElem q,g q⟩
theorem wB {L:Type} {l:List Az} {i:Int} {k:Az->Tr U L} {Q:L->Prop} (h:0<=i/\i<(l.length:Int)) (g:∀q:i.toNat<l.length,Tot (k l[i.toNat]) Q):Tot (Tr.bind (U:=U) 68 (l[Int.toNat i]? : Option Az) k) Q:=ZIv (t:=68) h g
theorem take_set {α:Type} {a b:List α} {n:Nat} (A:n<b.length) (hl:a.length=b.length) (h:a.take n=b.take n):(a.set n b[n]).take (n+1)=b.take (n+1):=by
 apply List.ext_getElem?;intro j;rw[List.getElem?_take,List.getElem?_take]
 by_cases z:j<n+1
 ·rw[if_pos z,if_pos z,List.getElem?_set]
  by_cases q:n=j
  ·subst q;rw[if_pos rfl,if_pos (by omega)];exact(List.getElem?_eq_getElem A).symm
  ·rw[if_neg q];have:=congrArg (fun l=>l[j]?) h;simp only[List.getElem?_take]at this;rw[if_pos (by omega),if_pos (by omega)]at this;exact this
 ·rw[if_neg z,if_neg z]
theorem Zd7 (k:Int) (q:Ad) (Q:Ba k q) (G:0<=k) (h2:k<=1000000):∃r,rX q=some r/\(r.q0=⟨q,[]⟩):=by
 have hq:=Q;dsimp only[Ba,Cm,BF]at hq;have I:∀p∈q.Ar.Ap,p.Payload.length<=1000000:=fun p hp=>by
  have:=(Q.1.2.2.2.1 p hp).2.2.2.1;omega
 refine Bd (T:=qR) (post:=fun r=>r.q0=⟨q,[]⟩) (fun p=>match p with | .b0 A=>A=q | .b1 A F D z C=>C=q/\F=q.Ar.Ap/\D=(q.Ar.Ap.length:Int)/\A.length=q.Ar.Ap.length/\0<=z/\z<=(q.Ar.Ap.length:Int)/\A.take z.toNat=q.Ar.Ap.take z.toNat)
  (fun p=>match p with | .b0 _=>(1,0,0) | .b1 A F D z C=>(0,(D - z).toNat,0)) ?_ (.b0 q) rfl
 intro p hp;cases p with
 | b0 A=>
  dsimp only at hp;subst hp;simp only[qR];refine Dq (by simp[kL,kA,Cb,maxLen_eq]<;>omega) ?_;refine Dq (by simp[kL,kA,Cb,maxLen_eq]<;>omega) ?_;refine D9 ?_;exact⟨⟨rfl,rfl,rfl,by rw[List.length_replicate];omega,by omega,by omega,by simp⟩,Zib (by omega)⟩
 | b1 A F D z C=>
  dsimp only at hp;obtain⟨rfl,rfl,rfl,hl,g1,g2,Y⟩:=hp;simp only[qR];refine EN (fun h=>?_) (fun h=>?_)
  ·simp only[decide_eq_true_eq,decide_eq_false_iff_not]at h;refine Dq (by simp[kL,kA,Cb,maxLen_eq]<;>omega) ?_;refine wB (by omega) (fun S=>?_);refine Am (Z7C _ (I _ (List.getElem_mem S))) (fun(v:Kv) hm hv=>?_);refine Dq (by simp[kL,kA,Cb,maxLen_eq]<;>omega) ?_;refine Dq (by simp[kL,kA,Cb,maxLen_eq]<;>omega) ?_;refine Dq (by simp[kL,kA,Cb,maxLen_eq]<;>omega) ?_;refine wB (by omega) (fun hi' =>?_);refine Dq (by simp[kL,kA,Cb,maxLen_eq]<;>omega) ?_;refine Dq (by simp[kL,kA,Cb,maxLen_eq]<;>omega) ?_;refine D9 ?_;dsimp only;rw[Bv (by omega) (by omega),hv];refine⟨⟨rfl,rfl,rfl,by rw[List.length_set];exact hl,by omega,by omega,?_⟩,Zie (by omega)⟩;rw[show (z+1).toNat=z.toNat+1 by omega];exact take_set S hl Y
  ·simp only[decide_eq_true_eq,decide_eq_false_iff_not]at h;have he:A=C.Ar.Ap:=by
    have e1:z.toNat=A.length:=by omega
    have e2:z.toNat=C.Ar.Ap.length:=by omega
    have G:=Y;rw[e1,List.take_length]at G;rw[G,hl,List.take_length]
   subst he;refine Am (Z5 _ (by omega)) (fun(v1:RF) hm1 J=>?_);refine Am (Zc _ (by omega)) (fun(v2:Pn) hm2 M=>?_);refine Am (Zlp _ (by omega)) (fun(v3:Y1) hm3 N=>?_);refine Am (Z5 _ (by omega)) (fun(v4:RF) hm4 O=>?_);refine Dq (by simp) ?_;refine D9 ?_;dsimp only;rw[J,M,N,O]
theorem ZnW (p0:List Az) (J:p0.length<=64) (D:KC p0):∃r,Z0e p0=some r/\r=p0:=by
 refine Bd (T:=nH) (post:=fun r=>r=p0) (fun p=>match p with | .b0 z=>z=p0 | .b1 z A q=>z=p0/\0<=q/\q<=(p0.length:Int)/\A=p0.take q.toNat)
  (fun p=>match p with | .b0 _=>(1,0,0) | .b1 z A q=>(0,((z.length:Int) - q).toNat,0)) ?_ (.b0 p0) rfl
 intro p hp;cases p with
 | b0 z=>
  dsimp only at hp;subst hp;simp only[nH];refine Dq (by simp[kL,kA,Cb,maxLen_eq]<;>omega) ?_;refine D9 ?_;exact⟨⟨rfl,by omega,by omega,by simp⟩,Zib (by omega)⟩
 | b1 z A q=>
  dsimp only at hp;obtain⟨rfl,G,I,rfl⟩:=hp;simp only[nH];refine EN (fun h=>?_) (fun h=>?_)
  ·simp only[decide_eq_true_eq,decide_eq_false_iff_not]at h;refine Dq (by simp[kL,kA,Cb,maxLen_eq]<;>omega) ?_;refine wB (by omega) (fun C=>?_);have F:=(D _ (List.getElem_mem C)).2.2.2.1;refine Dq (by simp[kL,kA,Cb,maxLen_eq]<;>omega) ?_;refine wB (by omega) (fun hi' =>?_);refine Dq (by simp[kL,kA,Cb,maxLen_eq]<;>omega) ?_;refine Dq (by simp[kL,kA,Cb,maxLen_eq]<;>omega) ?_;refine Dq (by simp) ?_;refine Dq (by simp[kL,kA,Cb,maxLen_eq]<;>omega) ?_;refine Dq (by simp[kL,kA,Cb,maxLen_eq]<;>omega) ?_;refine Dq (by simp[kL,kA,Cb,maxLen_eq]<;>omega) ?_;refine Dq (by simp) ?_;refine D9 ?_;dsimp only;rw[Bv (by omega) (by omega),List.nil_append];refine⟨⟨rfl,by omega,by omega,?_⟩,Zie (by omega)⟩;rw[show (q+1).toNat=q.toNat+1 by omega]
   first|exact List.take_append_getElem C|exact(List.take_append_getElem C).symm|simp
  ·simp only[decide_eq_true_eq,decide_eq_false_iff_not]at h;refine Dq (by simp[kL,kA,Cb,maxLen_eq]<;>omega) ?_;refine D9 ?_;dsimp only;rw[show q.toNat=z.length by omega,List.take_length]
theorem Z4b (k:Int):(DU k=some ⟨true,true,false,true,false,false,false,false,false,false,false⟩/\k=0)\/(DU k=some ⟨true,false,true,true,false,false,false,false,false,false,false⟩/\k=1) \/
  (DU k=some ⟨true,false,false,false,true,false,false,false,false,false,false⟩/\k=2)\/(DU k=some ⟨true,false,false,false,false,false,true,true,false,false,false⟩/\k=3) \/
  (DU k=some ⟨true,false,false,false,false,false,true,false,false,false,false⟩/\k=4)\/(DU k=some ⟨true,false,false,false,false,false,false,false,false,false,false⟩/\(k=5\/k=6\/k=18\/k=19)) \/
  (DU k=some ⟨true,false,false,false,false,true,false,false,false,false,false⟩/\k=7)\/(DU k=some ⟨true,false,false,false,false,false,false,false,true,false,false⟩/\(k=8\/k=9)) \/
  (DU k=some ⟨true,false,false,false,false,false,false,false,false,true,false⟩/\k=12)\/(DU k=some ⟨true,false,false,false,true,true,false,false,false,false,false⟩/\k=13) \/
  (DU k=some ⟨true,true,false,false,false,false,false,false,false,false,false⟩/\k=15)\/(DU k=some ⟨true,false,false,false,false,false,false,false,false,false,true⟩/\(k=20\/k=21)) \/
  (DU k=some Nv/\(k<0\/9<k/\k<12\/k=14\/15<k/\k<18\/21<k)):=by
 have e6:∀z,AU Oe (.b6 z)=some Nv:=fun z=>(Aj _ _).trans rfl;have e5:∀z,AU Oe (.b5 z)=some ⟨true,false,false,false,false,false,false,false,false,false,true⟩:=fun z=>(Aj _ _).trans rfl;have e3:∀z,AU Oe (.b3 z)=some ⟨true,false,false,false,false,false,false,false,true,false,false⟩:=fun z=>(Aj _ _).trans rfl;have e1:∀z,AU Oe (.b1 z)=some ⟨true,false,false,false,false,false,false,false,false,false,false⟩:=fun z=>(Aj _ _).trans rfl;have N:=fun k z=>Aj Oe (.b4 k z);have M:=fun k z=>Aj Oe (.b2 k z);have J:DU k=_:=Aj Oe (.b0 k);simp only[Oe,DN,e6,e5,e3,e1]at N M J;simp only[N,M]at J;rw[J]
 by_cases O:k=0
 ·subst O;exact .inl ⟨rfl,rfl⟩
 by_cases Q:k=1
 ·subst Q;exact .inr (.inl ⟨rfl,rfl⟩)
 by_cases S:k=2
 ·subst S;exact .inr (.inr (.inl ⟨rfl,rfl⟩))
 by_cases Y:k=3
 ·subst Y;exact .inr (.inr (.inr (.inl ⟨rfl,rfl⟩)))
 by_cases h4:k=4
 ·subst h4;exact .inr (.inr (.inr (.inr (.inl ⟨rfl,rfl⟩))))
 by_cases h5:k=5
 ·subst h5;exact .inr (.inr (.inr (.inr (.inr (.inl ⟨rfl,.inl rfl⟩)))))
 by_cases h6:k=6
 ·subst h6;exact .inr (.inr (.inr (.inr (.inr (.inl ⟨rfl,.inr (.inl rfl)⟩)))))
 by_cases D:k=18
 ·subst D;exact .inr (.inr (.inr (.inr (.inr (.inl ⟨rfl,.inr (.inr (.inl rfl))⟩)))))
 by_cases F:k=19
 ·subst F;exact .inr (.inr (.inr (.inr (.inr (.inl ⟨rfl,.inr (.inr (.inr rfl))⟩)))))
 by_cases h7:k=7
 ·subst h7;exact .inr (.inr (.inr (.inr (.inr (.inr (.inl ⟨rfl,rfl⟩))))))
 by_cases h8:k=8
 ·subst h8;exact .inr (.inr (.inr (.inr (.inr (.inr (.inr (.inl ⟨rfl,.inl rfl⟩)))))))
 by_cases h9:k=9
 ·subst h9;exact .inr (.inr (.inr (.inr (.inr (.inr (.inr (.inl ⟨rfl,.inr rfl⟩)))))))
 by_cases q:k=12
 ·subst q;exact .inr (.inr (.inr (.inr (.inr (.inr (.inr (.inr (.inl ⟨rfl,rfl⟩))))))))
 by_cases A:k=13
 ·subst A;exact .inr (.inr (.inr (.inr (.inr (.inr (.inr (.inr (.inr (.inl ⟨rfl,rfl⟩)))))))))
 by_cases C:k=15
 ·subst C;exact .inr (.inr (.inr (.inr (.inr (.inr (.inr (.inr (.inr (.inr (.inl ⟨rfl,rfl⟩))))))))))
 by_cases G:k=20
 ·subst G;exact .inr (.inr (.inr (.inr (.inr (.inr (.inr (.inr (.inr (.inr (.inr (.inl ⟨rfl,.inl rfl⟩)))))))))))
 by_cases I:k=21
 ·subst I;exact .inr (.inr (.inr (.inr (.inr (.inr (.inr (.inr (.inr (.inr (.inr (.inl ⟨rfl,.inr rfl⟩)))))))))))
 refine .inr (.inr (.inr (.inr (.inr (.inr (.inr (.inr (.inr (.inr (.inr (.inr ⟨?_,by omega⟩)))))))))));rw[beq_false_of_ne O,beq_false_of_ne Q,beq_false_of_ne S,beq_false_of_ne Y,beq_false_of_ne h4,beq_false_of_ne h5,beq_false_of_ne h6,beq_false_of_ne D,beq_false_of_ne F,beq_false_of_ne h7,beq_false_of_ne h8,beq_false_of_ne h9,beq_false_of_ne q,beq_false_of_ne A,beq_false_of_ne C,beq_false_of_ne G,beq_false_of_ne I];rfl
def Uu (c:AO) (u:CP):AO:=⟨0,bif u.BL then CE else c.BL,bif u.Map then 0 else c.Map,bif u.DZ then 0 else c.DZ,bif u.CQ then 0 else c.CQ,bif u.ER then 0 else c.ER,bif u.CZ then 0 else c.CZ,bif u.Mark then 0 else c.Mark,bif u.D7 then 0 else c.D7,bif u.Version then 0 else c.Version,bif u.Length then 0 else c.Length⟩
theorem ZHi (c:AO) (u:CP) (hf:DU c.Kind=some u):uF c=some (Uu c u):=by
 have Q:=fun x y=>Aj Ht (.b1 x y u);have S:=fun x y=>Aj Ht (.b2 x y u);have Y:=fun x y=>Aj Ht (.b3 x y u);have e4:=fun x y=>Aj Ht (.b4 x y u);have e5:=fun x y=>Aj Ht (.b5 x y u);have e6:=fun x y=>Aj Ht (.b6 x y u);have e7:=fun x y=>Aj Ht (.b7 x y u);have e8:=fun x y=>Aj Ht (.b8 x y u);have e9:=fun x y=>Aj Ht (.b9 x y u);refine(Aj _ _).trans ?_;simp only[Ht,DN]at Q S Y e4 e5 e6 e7 e8 e9 ⊢;simp only[hf,Option.bind_some];unfold Uu;obtain⟨O,A,C,D,F,G,I,J,M,N,q⟩:=u;have b1:(bif A then AU Ht (.b1 { c with Kind:=0,BL:=CE } EZ ⟨O,A,C,D,F,G,I,J,M,N,q⟩) else AU Ht (.b1 { c with Kind:=0 } EZ ⟨O,A,C,D,F,G,I,J,M,N,q⟩))=AU Ht (.b1 { c with Kind:=0,BL:=bif A then CE else c.BL } EZ ⟨O,A,C,D,F,G,I,J,M,N,q⟩):=by cases A<;>rfl
 refine b1.trans ?_;have z:∀(b:Bool) (x y:AO) (f:AO->Option AO),(bif b then f x else f y)=f (bif b then x else y):=fun b _ _ _=>by cases b<;>rfl
 rw[Q,z C _ _ (fun x=>AU Ht (.b2 x _ _)),S,z D _ _ (fun x=>AU Ht (.b3 x _ _)),Y,z F _ _ (fun x=>AU Ht (.b4 x _ _)),e4,z G _ _ (fun x=>AU Ht (.b5 x _ _)),e5,z I _ _ (fun x=>AU Ht (.b6 x _ _)),e6,z J _ _ (fun x=>AU Ht (.b7 x _ _)),e7,z M _ _ (fun x=>AU Ht (.b8 x _ _)),e8,z N _ _ (fun x=>AU Ht (.b9 x _ _)),e9,z q _ _ some];congr 1;cases C<;>cases D<;>cases F<;>cases G<;>cases I<;>cases J<;>cases M<;>cases N<;>cases q<;>rfl
def Ji (n:Int):Bool:=bif decide (n>=0) then decide (n<=255) else false
theorem ZDR (n:Int):Vr n=some (Ji n):=(Aj _ _).trans (by
 simp only[Z1q,DN];unfold Ji;cases decide (n>=0)<;>rfl)
theorem Z3P (n:Int):Ji n=true↔R8 n:=by
 unfold Ji R8
 by_cases h:n>=0
 ·rw[decide_eq_true h,cond_true,decide_eq_true_eq];omega
 ·rw[decide_eq_false h,cond_false];exact⟨(fun h=>nomatch h),fun q =>by omega⟩
def zC (x:AO):Bool:=(x.Kind==0)&&((x.BL.FP==0)&&((x.BL.FC==0)&&((x.BL.E5==0)&&((x.BL.C9==0)&&((x.BL.FY==0)&&((x.Map==0)&&((x.DZ==0)&&((x.CQ==0)&&((x.ER==0)&&((x.CZ==0)&&((x.Mark==0)&&((x.D7==0)&&((x.Version==0)&&((x.Length==0)&&true))))))))))))))
theorem ZIb (x:AO):zC x=true↔x=EZ:=by
 obtain⟨k,⟨a,b,c,d,e⟩,m,i,r,q,s,mk,f,v,l⟩:=x;simp[zC,EZ,CE,and_assoc]
def zM (c:AO) (u:CP):Int:=bif !u.Fq then 12 else bif !zC (Uu c u) then 1 else bif u.BL&&(Hu c.BL != 0) then Hu c.BL else bif u.Map&&(JI c.Map != 0) then JI c.Map else bif !Ji c.CQ then 5 else bif !Ji c.ER then 5 else bif !Ji c.Version then 5 else bif u.Length&&(decide (c.Length<27)||decide (c.Length>251)) then 5 else 0
theorem WH (c:AO) (u:CP) (hf:DU c.Kind=some u) (hm:0<=c.Map/\c.Map<18446744073709551616):JZ c=some (zM c u):=by
 have A:AU WE (.b2 c u)=some (bif !Ji c.CQ then 5 else bif !Ji c.ER then 5 else bif !Ji c.Version then 5 else bif u.Length&&(decide (c.Length<27)||decide (c.Length>251)) then 5 else 0):=(Aj _ _).trans (by
  simp only[WE,DN,ZDR,Option.bind_some];cases Ji c.CQ<;>cases Ji c.ER<;>cases Ji c.Version<;>cases u.Length<;>cases decide (c.Length<27)<;>cases decide (c.Length>251)<;>rfl)
 have q:AU WE (.b1 c u)=some (bif u.Map&&(JI c.Map != 0) then JI c.Map else bif !Ji c.CQ then 5 else bif !Ji c.ER then 5 else bif !Ji c.Version then 5 else bif u.Length&&(decide (c.Length<27)||decide (c.Length>251)) then 5 else 0):=(Aj _ _).trans (by
  have h:=Zvm c.Map.toNat (by omega);rw[Int.toNat_of_nonneg hm.1]at h;simp only[WE,DN,h,Option.bind_some,A];cases u.Map<;>cases (JI c.Map != 0)<;>rfl)
 refine(Aj _ _).trans ?_;simp only[WE,DN,hf,Option.bind_some,ZHi c u hf,Z8o,q];unfold zM;rw[show zC (Uu c u)=_ from rfl];cases u.Fq
 ·rfl
 ·simp only[Bool.not_true,cond_false];unfold zC;generalize ((Uu c u).Kind==0&&_)=z;cases z
  ·rfl
  ·cases u.BL<;>cases (Hu c.BL != 0)<;>rfl
theorem Sz {x:Bool} {a b:Int} (h:x=true->a≠0):(bif x then a else b)=0↔x=false/\b=0:=by cases x<;>simp_all
theorem Zh5 {c:AO} {u:CP}:zM c u=0↔u.Fq=true/\Uu c u=EZ/\(u.BL=true->Hu c.BL=0)/\(u.Map=true->JI c.Map=0)/\R8 c.CQ/\R8 c.ER/\R8 c.Version/\(u.Length=true->27<=c.Length/\c.Length<=251):=by
 rw[<- ZIb,<- Z3P,<- Z3P,<- Z3P];unfold zM;have q:(u.BL&&(Hu c.BL != 0))=false↔(u.BL=true->Hu c.BL=0):=by cases u.BL<;>simp
 have z:(u.Map&&(JI c.Map != 0))=false↔(u.Map=true->JI c.Map=0):=by cases u.Map<;>simp
 have A:(u.Length&&(decide (c.Length<27)||decide (c.Length>251)))=false↔(u.Length=true->27<=c.Length/\c.Length<=251):=by cases u.Length<;>simp
 rw[Sz (fun _=>by decide),Sz (fun _=>by decide),Sz (fun h=>by simp at h;exact h.2),Sz (fun h=>by simp at h;exact h.2),Sz (fun _=>by decide),Sz (fun _=>by decide),Sz (fun _=>by decide),Sz (fun _=>by decide),q,z,A];simp only[Bool.not_eq_false',and_true]
theorem Zwz {c:AO} (h:CV c):JZ c=some 0:=by
 have hm:0<=c.Map/\c.Map<18446744073709551616:=by cases h<;>first|assumption|exact(⟨by decide,by decide⟩:CO 0)
 have q:R8 0:=⟨by decide,by decide⟩;rcases Z4b c.Kind with ⟨hf,hk⟩|⟨hf,hk⟩|⟨hf,hk⟩|⟨hf,hk⟩|⟨hf,hk⟩|⟨hf,hk⟩|⟨hf,hk⟩|⟨hf,hk⟩|⟨hf,hk⟩|⟨hf,hk⟩|⟨hf,hk⟩|⟨hf,hk⟩|⟨hf,hk⟩
 all_goals
  rw[WH c _ hf hm];refine congrArg some (Zh5.2 ?_);cases h<;>first|(exfalso;dsimp only at hk;omega)|(refine⟨rfl,rfl,?_,?_,?_,?_,?_,?_⟩<;>first|assumption|(intro;assumption)|(intro;exact⟨by assumption,by assumption⟩)|(intro h;exact nomatch h))
theorem Ztj (c:AO) (hm:CO c.Map) (G:R16 c.DZ) (hs:CO c.CZ) (z : CO c.Mark) (q:CO c.D7):∃r,JZ c=some r/\(r=0->CV c):=by
 rcases Z4b c.Kind with ⟨hf,hk⟩|⟨hf,hk⟩|⟨hf,hk⟩|⟨hf,hk⟩|⟨hf,hk⟩|⟨hf,hk⟩|⟨hf,hk⟩|⟨hf,hk⟩|⟨hf,hk⟩|⟨hf,hk⟩|⟨hf,hk⟩|⟨hf,hk⟩|⟨hf,hk⟩
 all_goals
  refine⟨_,WH c _ hf hm,fun hz=>?_⟩;obtain⟨N,I,A,J,C,D,M,F⟩:=Zh5.1 hz;obtain⟨k,u,m,i,r,O,s,mk,f,v,l⟩:=c
  first
   | exact absurd N (by decide)
   | (simp only[Uu,EZ,cond_true,cond_false,AO.mk.injEq,true_and,and_true]at I
      dsimp only at hk A J C D M F hm G hs z q;simp only[I]
      first
       | (subst hk;first|exact CV.upd _ _ (A rfl) G|exact CV.map _ _ hm (J rfl) G|exact CV.term _ C|exact CV.enc _ _ hs z | exact CV.ans _ hs|exact CV.VK _ D|exact CV.Xr _ M|exact CV.VS _ _ C D|exact CV.par _ (A rfl))
       | exact CV.plain _ hk
       | exact CV.kK _ _ hk q
       | exact CV.len _ _ hk (F rfl).1 (F rfl).2)
theorem Z23 (z:AO) (q:Ce z):∃r,JZ z=some r/\(r=0->CV z):=Ztj z q.1 q.2.1 q.2.2.1 q.2.2.2.1 q.2.2.2.2.1
theorem Zox (q:DR):∃r,Ye q=some r/\(r=0->Gm q.C9):=
 ⟨Hu q,Z8o q,fun h=>⟨(XZ h).2.2.2.2.2.2.1,(XZ h).2.2.2.2.2.2.2.1⟩⟩
theorem Bi:(∀(α:Type) (a b:List α),(a++b).length=a.length+b.length)/\(∀(α:Type) (a:α) (l:List α),(a::l).length=l.length+1)/\(∀α:Type,([]:List α).length=0)/\(∀(α:Type) (n:Nat) (l:List α),(l.take n).length=min n l.length)/\(∀(α:Type) (n:Nat) (l:List α),(l.drop n).length=l.length - n)/\(∀(α:Type) (l:List α) (i:Nat) (a:α),(l.set i a).length=l.length)/\(∀(α:Type) (n:Nat) (a:α),(List.replicate n a).length=n):=
 ⟨fun _ _ _=>List.length_append,fun _ _ _=>List.length_cons,fun _=>List.length_nil,fun _ _ _=>List.length_take,fun _ _ _=>List.length_drop,fun _ _ _ _=>List.length_set,fun _ _ _=>List.length_replicate⟩
theorem Dp:(∀a b:Bool,((a&&b)=true)=(a=true/\b=true))/\(∀a b:Bool,((a||b)=true)=(a=true\/b=true))/\(∀(p:Prop) [Decidable p],(decide p=true)=p)/\(∀(α:Type) [BEq α] [LawfulBEq α] (a b:α),((a==b)=true)=(a=b))/\(∀(α:Type) [BEq α] [LawfulBEq α] (a b:α),((a != b)=true)=(a≠b))/\(∀(α:Type) [BEq α] [ReflBEq α] (a:α),(a==a)=true)/\(∀p:Prop,(p/\p)=p)/\(∀p:Prop,(p/\True)=p)/\(∀p:Prop,(True/\p)=p)/\(∀(α q:Type) (f:α->q) (l:List α),(l.map f).length=l.length):=
 ⟨Bool.and_eq_true,Bool.or_eq_true,fun _ _=>decide_eq_true_eq,fun _ _ _ _ _=>propext beq_iff_eq,fun _ _ _ _ _=>propext bne_iff_ne,fun _ _ _ a=>beq_self_eq_true a,and_self,and_true,true_and,fun _ _ _ _=>List.length_map _⟩
theorem Fe:(∀(p:Prop) [Decidable p],(decide p=true)=p)/\(∀(p:Prop) [Decidable p],(decide p=false)=¬p)/\(∀b:Bool,((!b)=true)=(b=false))/\(∀b:Bool,((!b)=false)=(b=true))/\(∀b:Bool,(¬b=true)=(b=false))/\(∀b:Bool,(¬b=false)=(b=true))/\(∀(α:Type) [BEq α] [LawfulBEq α] (a b:α),((a==b)=true)=(a=b))/\(∀(α:Type) [BEq α] [LawfulBEq α] (a b:α),((a != b)=true)=(a≠b)) /\
  (∀(α:Type) [BEq α] [LawfulBEq α] (a b:α),((a==b)=false)=(a≠b))/\(∀(α:Type) [BEq α] [LawfulBEq α] (a b:α),((a != b)=false)=(a=b))/\(∀(α:Type) (a b:α),(a≠b)=¬a=b)/\(∀a b:Bool,((a&&b)=true)=(a=true/\b=true))/\(∀a b:Bool,((a||b)=true)=(a=true\/b=true))/\(∀p:Prop,(¬¬p)=p):=
 ⟨fun _ _=>decide_eq_true_eq,fun _ _=>propext decide_eq_false_iff_not,fun b=>by cases b<;>simp,fun b=>by cases b<;>simp,fun b=>by cases b<;>simp,fun b=>by cases b<;>simp,fun _ _ _ _ _=>propext beq_iff_eq,fun _ _ _ _ _=>propext bne_iff_ne,fun _ _ _ _ _=>propext beq_eq_false_iff_ne,fun _ _ _ _ _=>propext bne_eq_false_iff_eq,fun _ _ _=>rfl,Bool.and_eq_true,Bool.or_eq_true,fun _=>propext Classical.not_not⟩
theorem ZhA {L:Type} {l:List (Int)} {i:Int} {k:Int->Tr U L} {Q:L->Prop} (h:0<=i/\i<(l.length:Int)) (g:∀v:Int,v∈l->Tot (k v) Q):Tot (Tr.bind (U:=U) 3 (l[Int.toNat i]? : Option (Int)) k) Q:=OL (U:=U) (t:=3) h g
theorem vY {L:Type} {l:List (AO)} {i:Int} {k:AO->Tr U L} {Q:L->Prop} (h:0<=i/\i<(l.length:Int)) (g:∀v:AO,v∈l->Tot (k v) Q):Tot (Tr.bind (U:=U) 156 (l[Int.toNat i]? : Option (AO)) k) Q:=OL (U:=U) (t:=156) h g
theorem Z47 {L:Type} {l:List (Az)} {i:Int} {k:Az->Tr U L} {Q:L->Prop} (h:0<=i/\i<(l.length:Int)) (g:∀v:Az,v∈l->Tot (k v) Q):Tot (Tr.bind (U:=U) 68 (l[Int.toNat i]? : Option (Az)) k) Q:=OL (U:=U) (t:=68) h g
theorem Qd {L:Type} {l:List (Int)} {i:Int} {k:Int->Tr U L} {Q:L->Prop} (h:0<=i/\i<(l.length:Int)) (g:∀v:Int,v∈l->Tot (k v) Q):Tot (Tr.bind (U:=U) 5 (l[Int.toNat i]? : Option (Int)) k) Q:=OL (U:=U) (t:=5) h g
theorem Z3U {L:Type} {l:List (BO)} {i:Int} {k:BO->Tr U L} {Q:L->Prop} (h:0<=i/\i<(l.length:Int)) (g:∀v:BO,v∈l->Tot (k v) Q):Tot (Tr.bind (U:=U) 99 (l[Int.toNat i]? : Option (BO)) k) Q:=OL (U:=U) (t:=99) h g
theorem iK {L:Type} {l:List (BC)} {i:Int} {k:BC->Tr U L} {Q:L->Prop} (h:0<=i/\i<(l.length:Int)) (g:∀v:BC,v∈l->Tot (k v) Q):Tot (Tr.bind (U:=U) 138 (l[Int.toNat i]? : Option (BC)) k) Q:=OL (U:=U) (t:=138) h g
theorem ZF1 {L:Type} {l:List (Int)} {i:Int} {k:Int->Tr U L} {Q:L->Prop} (h:0<=i/\i<(l.length:Int)) (g:∀v:Int,v∈l->Tot (k v) Q):Tot (Tr.bind (U:=U) 25 (l[Int.toNat i]? : Option (Int)) k) Q:=OL (U:=U) (t:=25) h g
theorem Z3I {L:Type} {l:List (Au)} {i:Int} {k:Au->Tr U L} {Q:L->Prop} (h:0<=i/\i<(l.length:Int)) (g:∀v:Au,v∈l->Tot (k v) Q):Tot (Tr.bind (U:=U) 148 (l[Int.toNat i]? : Option (Au)) k) Q:=OL (U:=U) (t:=148) h g
theorem ZFG {L:Type} {l:List (Hw)} {i:Int} {k:Hw->Tr U L} {Q:L->Prop} (h:0<=i/\i<(l.length:Int)) (g:∀v:Hw,v∈l->Tot (k v) Q):Tot (Tr.bind (U:=U) 83 (l[Int.toNat i]? : Option (Hw)) k) Q:=OL (U:=U) (t:=83) h g
theorem ZD7 {L:Type} {l:List (FT)} {i:Int} {k:FT->Tr U L} {Q:L->Prop} (h:0<=i/\i<(l.length:Int)) (g:∀v:FT,v∈l->Tot (k v) Q):Tot (Tr.bind (U:=U) 113 (l[Int.toNat i]? : Option (FT)) k) Q:=OL (U:=U) (t:=113) h g
end Go.Proofs.YtjodhcdmhobmoaaGreatDoor
