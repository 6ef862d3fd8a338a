/- A part of it. -/
import Derived.Test.YtjodhcdmhobmoaaGreatDoorVUn
import Derived.Laws.BitsAllLaws
import Derived.Test.YtjodhcdmhobmoaaGreatDoorVF3
import Derived.Laws.Bits128
set_option linter.unusedVariables false
set_option linter.unusedSimpArgs false
namespace Go.Proofs.YtjodhcdmhobmoaaGreatDoor
open Go Go.Proofs.YtjodhcdmhobmoaaGreatDoor.Le
def Tot {U:DD} {L:Type}:Tr U L->(L->Prop)->Prop
 | .leaf l,Q=>Q l
 | .br c a b,Q=>(c=true->Tot a Q)/\(c=false->Tot b Q)
 | .bind _ o k,Q=>∃x,o=some x/\Tot (k x) Q
 | .chk c a,Q=>c=true/\Tot a Q
 | .fail,_=>False
theorem ZgY {U:DD} {L R:Type} {J:L->Option R} {post:R->Prop}:∀{t:Tr U L},Tot t (fun l=>∃r,J l=some r/\post r)->∃r,t.den J=some r/\post r:=by
 intro t;induction t with
 | leaf l=>intro h;exact h
 | br c a b C D=>
  intro h;cases c with
  | true=>exact C (h.1 rfl)
  | false=>exact D (h.2 rfl)
 | bind t o k A=>
  intro h;obtain⟨x,hx,h⟩:=h;obtain⟨r,q,z⟩:=A x h;exact⟨r,by rw[Tr.den,hx];exact q,z⟩
 | chk c a A=>
  intro h;obtain⟨r,q,z⟩:=A h.2;exact⟨r,by rw[Tr.den,h.1];exact q,z⟩
 | fail=>intro h;exact h.elim
theorem Tot.mono {U:DD} {L:Type} {Q Q' : L->Prop} (C:∀l,Q l->Q' l):∀{t:Tr U L},Tot t Q->Tot t Q' :=by
 intro t;induction t with
 | leaf l=>exact C l
 | br c a b z A=>exact fun h=>⟨fun e=>z (h.1 e),fun e=>A (h.2 e)⟩
 | bind t o k q=>exact fun⟨x,hx,h⟩=>⟨x,hx,q x h⟩
 | chk c a q=>exact fun h=>⟨h.1,q h.2⟩
 | fail=>exact fun h=>h
def Lt3 (a b:Nat×Nat×Nat):Prop:=a.1<b.1\/(a.1=b.1/\(a.2.1<b.2.1\/(a.2.1=b.2.1/\a.2.2<b.2.2)))
theorem lt3_wf:WellFounded Lt3:=by
 have key:∀x y z,Acc Lt3 (x,y,z):=by
  intro x;induction x using Nat.strongRecOn with
  | _ x C=>
   intro y;induction y using Nat.strongRecOn with
   | _ y D=>
    intro z;induction z using Nat.strongRecOn with
    | _ z F=>
     refine Acc.intro _ fun q I=>?_;obtain⟨q1,q2,q3⟩:=q;rcases I with h|⟨A,h|⟨G,h⟩⟩
     ·exact C q1 h q2 q3
     ·simp only at A h;subst A;exact D q2 h q3
     ·simp only at A G h;subst A;subst G;exact F q3 h
 exact⟨fun⟨x,y,z⟩=>key x y z⟩
theorem ZhQ {a b c d e f:Nat} (h:a<d):Lt3 (a,b,c) (d,e,f):=.inl h
theorem Zi4 {a b c e f:Nat} (h:b<e):Lt3 (a,b,c) (a,e,f):=.inr ⟨rfl,.inl h⟩
theorem Gu {a b c d e f:Nat}:Lt3 (a,b,c) (d,e,f)↔a<d\/(a=d/\(b<e\/(b=e/\c<f))):=Iff.rfl
theorem CW {U:DD} {P R:Type} {T:P->Tr U (R⊕P)} {post:R->Prop} (I:P->Prop) (z:P->Nat×Nat×Nat)
  (h:∀p,I p->Tot (T p) (fun l=>match l with | .inl r=>post r | .inr q=>I q/\Lt3 (z q) (z p))) (p:P) (hp:I p):∃r,AU T p=some r/\post r:=by
 have key:∀x p,z p=x->I p->∃r,AU T p=some r/\post r:=by
  intro x;induction lt3_wf.apply x with
  | intro x _ C=>
   intro p hx A;subst hx;rw[Aa];refine ZgY ((h p A).mono fun l hl=>?_);cases l with
   | inl r=>exact⟨r,rfl,hl⟩
   | inr q=>exact C _ hl.2 q rfl hl.1
 exact key _ p rfl hp
theorem Cc {U:DD} {P R:Type} {T:P->Tr U (R⊕P)} {post:R->Prop} {p:P} (I:Prop) (z:I) (h:I->Tot (T p) (fun l=>match l with | .inl r=>post r | .inr _=>False)):∃r,AU T p=some r/\post r:=by
 rw[Aa];refine ZgY ((h z).mono fun l hl=>?_);cases l with
 | inl r=>exact⟨r,rfl,hl⟩
 | inr q=>exact hl.elim
theorem ZFt {α:Type} {l:List α} {i:Int} {Q:α->Prop} (h:0<=i/\i<(l.length:Int)) (k:∀v,v∈l->Q v):∃v,l[Int.toNat i]? = some v/\Q v:=by
 have q:i.toNat<l.length:=by omega
 exact⟨l[i.toNat],List.getElem?_eq_getElem q,k _ (List.getElem_mem q)⟩
theorem Ce {a:Int} (h : -9223372036854775808<=a) (q : a<=9223372036854775807):AQ a=a:=by
 simp only[AQ,IntKind.wrap,IntKind.signed,IntKind.bits];simp;omega
theorem tm_bd (a:Int) (n:Nat) (h:0<n) : -(n:Int)<Int.tmod a n/\Int.tmod a n<n:=by
 have z:=Int.tmod_lt_of_pos a (show (0:Int)<n by omega);have q:=Int.tmod_lt_of_pos (-a) (show (0:Int)<n by omega);rw[Int.neg_tmod]at q;omega
theorem Ii {U:DD} {L:Type} {Q:L->Prop} (h:False):Tot (.fail:Tr U L) Q:=h
theorem FP {U:DD} {L:Type} {l:L} {Q:L->Prop} (h:Q l):Tot (.leaf l:Tr U L) Q:=h
theorem GH {U:DD} {L:Type} {c:Bool} {a b:Tr U L} {Q:L->Prop} (h:c=true->Tot a Q) (k:c=false->Tot b Q):Tot (.br c a b) Q:=⟨h,k⟩
theorem EU {U:DD} {L:Type} {c:Bool} {a:Tr U L} {Q:L->Prop} (h:c=true) (k:Tot a Q):Tot (.chk c a) Q:=⟨h,k⟩
theorem BA {U:DD} {L:Type} {t:Nat} {o:Option (U.Ty t)} {k:U.Ty t->Tr U L} {Q:L->Prop} {post:U.Ty t->Prop} (h:∃v,o=some v/\post v) (g:∀v,o=some v->post v->Tot (k v) Q):Tot (.bind t o k) Q:=by
 obtain⟨v,q,z⟩:=h;exact⟨v,q,g v q z⟩
theorem PU {U:DD} {L:Type} {t:Nat} {l:List (U.Ty t)} {i:Int} {k:U.Ty t->Tr U L} {Q:L->Prop} (h:0<=i/\i<(l.length:Int)) (g:∀v,v∈l->Tot (k v) Q):Tot (.bind t (l[Int.toNat i]?) k) Q:=
 ZFt h g
theorem Xq {U:DD} {L:Type} {t:Nat} {o:Option (U.Ty t)} {a:U.Ty t} {k:U.Ty t->Tr U L} {Q:L->Prop} (h:o=some a) (g:Tot (k a) Q):Tot (.bind t o k) Q:=⟨a,h,g⟩
theorem D6:lim=140737488355328:=rfl
theorem maxLen_eq:maxLen=9223372036854775807:=rfl
end Go.Proofs.YtjodhcdmhobmoaaGreatDoor
namespace Go.Proofs.YtjodhcdmhobmoaaGreatDoor.Na
open Go
def rep (c:Nat):Nat->Nat
 | 0=>0
 | k+1=>256*rep c k+c
theorem kE (x s c k:Nat) (hs:s<=8) (hc:c<2 ^ (8 - s)):(x / 2 ^ s) &&& rep c (k+1)=256*((x / 256 / 2 ^ s) &&& rep c k)+((x % 256 / 2 ^ s) &&& c):=by
 have q:c<2 ^ 8:=Nat.lt_of_lt_of_le hc (Nat.pow_le_pow_right (by omega) (by omega));have hb:((x % 256 / 2 ^ s) &&& c)<2 ^ 8:=Nat.lt_of_le_of_lt Nat.and_le_right q;refine Nat.eq_of_testBit_eq fun j=>?_;rw[show (256:Nat)=2 ^ 8 from rfl]at *;rw[Nat.testBit_two_pow_mul_add _ hb];simp only[rep];rw[show (256:Nat)=2 ^ 8 from rfl,Nat.testBit_and,Nat.testBit_two_pow_mul_add _ q];split
 ·rename_i A;rw[Nat.testBit_and,Nat.testBit_div_two_pow,Nat.testBit_div_two_pow,Nat.testBit_mod_two_pow]
  by_cases h:c.testBit j=true
  ·have:j<8 - s:=by
    refine Nat.lt_of_not_le fun z=>?_;rw[Nat.testBit_lt_two_pow (Nat.lt_of_lt_of_le hc (Nat.pow_le_pow_right (by omega) z))]at h;cases h
   rw[h,show decide (j+s<8)=true by simp;omega];simp
  ·simp[h]
 ·rename_i A;rw[Nat.testBit_and,Nat.testBit_div_two_pow,Nat.testBit_div_two_pow,Nat.testBit_div_two_pow];rw[show j - 8+s+8=j+s by omega]
def s1 (k x:Nat):Nat:=(x / 2 &&& rep 0x55 k)+(x &&& rep 0x55 k)
def s2 (k x:Nat):Nat:=(x / 4 &&& rep 0x33 k)+(x &&& rep 0x33 k)
def s3 (k x:Nat):Nat:=(x / 16+x) &&& rep 0x0f k
theorem Z4M (k x:Nat):s1 (k+1) x=256*s1 k (x / 256)+s1 1 (x % 256):=by
 have q:=kE x 1 0x55 k (by omega) (by decide);have z:=kE x 0 0x55 k (by omega) (by decide);simp only[Nat.pow_zero,Nat.div_one,Nat.pow_one]at q z;simp only[s1];rw[q,z,show rep 0x55 1=0x55 from rfl];omega
theorem ZgK (k h a:Nat) (D:a<256):s2 (k+1) (256*h+a)=256*s2 k h+s2 1 a:=by
 have q:=kE (256*h+a) 2 0x33 k (by omega) (by decide);have z:=kE (256*h+a) 0 0x33 k (by omega) (by decide);have A:(256*h+a) / 256=h:=by omega
 have C:(256*h+a) % 256=a:=by omega
 rw[A,C]at q z;simp only[Nat.pow_zero,Nat.div_one,show 2 ^ 2=4 from rfl]at q z;simp only[s2];rw[q,z,show rep 0x33 1=0x33 from rfl];omega
theorem ZDM (k h a:Nat) (F:a % 16<=4) (D : a / 16<=4) (G:h % 16<=4):s3 (k+1) (256*h+a)=256*s3 k h+s3 1 a:=by
 have q:=kE ((256*h+a) / 16+(256*h+a)) 0 0x0f k (by omega) (by decide);simp only[Nat.pow_zero,Nat.div_one]at q;have z:((256*h+a) / 16+(256*h+a)) / 256=h / 16+h:=by omega
 have A:((256*h+a) / 16+(256*h+a)) % 256=(h % 16)*16+(a / 16+a):=by omega
 have C:((h % 16)*16+(a / 16+a)) &&& 15=(a / 16+a) &&& 15:=by
  rw[Nat.and_two_pow_sub_one_eq_mod _ 4,Nat.and_two_pow_sub_one_eq_mod _ 4];omega
 simp only[s3];rw[q,z,A,C,show rep 0x0f 1=0x0f from rfl]
theorem Z5A:∀a<256,s1 1 a<256:=by decide +kernel
theorem ZhT:∀a<256,s2 1 (s1 1 a) % 16<=4/\s2 1 (s1 1 a) / 16<=4/\s2 1 (s1 1 a)<256:=by decide +kernel
def bc:Nat->Nat->Nat
 | 0,_=>0
 | k+1,x=>bc k x+x / 2 ^ k % 2
theorem f3_eq:∀a<256,s3 1 (s2 1 (s1 1 a))=bc 8 a:=by decide +kernel
theorem Jp (k x:Nat):bc k x<=k:=by
 induction k with
 | zero=>simp[bc]
 | succ k q=>simp only[bc];omega
theorem kU (a k x:Nat):bc (a+k) x=bc a x+bc k (x / 2 ^ a):=by
 induction k with
 | zero=>simp[bc]
 | succ k q=>
  show bc (a+k) x+x / 2 ^ (a+k) % 2=_;simp only[bc];rw[q,Nat.pow_add,Nat.div_div_eq_div_mul];omega
theorem Zh8 (a b x:Nat) (h:a<=b):bc a (x % 2 ^ b)=bc a x:=by
 induction a with
 | zero=>rfl
 | succ k q=>
  simp only[bc];rw[q (by omega)];congr 1;have e:∀y,y / 2 ^ k % 2=(y.testBit k).toNat:=fun y=>by rw[Nat.testBit_eq_decide_div_mod_eq];rcases Nat.mod_two_eq_zero_or_one (y / 2 ^ k) with h|h<;>simp[h]
  rw[e,e,Nat.testBit_mod_two_pow];simp[show k<b by omega]
theorem Zgn (k:Nat):bc k 0=0:=by
 induction k with
 | zero=>rfl
 | succ k q=>simp[bc,q]
def pb:Nat->Nat->Nat
 | 0,_=>0
 | k+1,x=>256*pb k (x / 256)+bc 8 (x % 256)
theorem swar (k x:Nat):s3 k (s2 k (s1 k x))=pb k x/\s2 k (s1 k x) % 16<=4:=by
 induction k generalizing x with
 | zero=>simp[s1,s2,s3,rep,pb]
 | succ k C=>
  have q:x % 256<256:=Nat.mod_lt _ (by omega);obtain⟨z,A⟩:=C (x / 256);obtain⟨b1,b2,b3⟩:=ZhT _ q;rw[Z4M,ZgK _ _ _ (Z5A _ q),ZDM _ _ _ b1 b2 A,z,f3_eq _ q];exact⟨rfl,by omega⟩
theorem dv (B A b:Nat) (hb:b<B):(b+B*A) / B=A:=by
 rw[Nat.add_mul_div_left _ _ (by omega),Nat.div_eq_of_lt hb];omega
theorem sum8e (I G F D C A z q:Nat) :
  256*(256*(256*(256*(256*(256*(256*(256*0+q)+z)+A)+C)+D)+F)+G)+I=I+256*(256*(256*(256*(256*(256*(256*q+z)+A)+C)+D)+F)+G) /\
  (I+256*(256*(256*(256*(256*(256*(256*q+z)+A)+C)+D)+F)+G))+(256*(256*(256*(256*(256*(256*q+z)+A)+C)+D)+F)+G)=((I+G)+256*(G+F))+65536*((F+D)+256*(D+C)+65536*(C+A)+16777216*(A+z)+4294967296*(z+q)+1099511627776*q) /\
  (((I+G)+256*(G+F))+65536*((F+D)+256*(D+C)+65536*(C+A)+16777216*(A+z)+4294967296*(z+q)+1099511627776*q))+((F+D)+256*(D+C)+65536*(C+A)+16777216*(A+z)+4294967296*(z+q)+1099511627776*q)=((I+G+F+D)+256*(G+F+D+C)+65536*(F+D+C+A)+16777216*(D+C+A+z))+4294967296*((C+A+z+q)+256*(A+z+q)+65536*(z+q)+16777216*q) /\
  (((I+G+F+D)+256*(G+F+D+C)+65536*(F+D+C+A)+16777216*(D+C+A+z))+4294967296*((C+A+z+q)+256*(A+z+q)+65536*(z+q)+16777216*q))+((C+A+z+q)+256*(A+z+q)+65536*(z+q)+16777216*q)=(I+G+F+D+C+A+z+q)+128*(2*(G+F+D+C+A+z+q)+512*(F+D+C+A+z+q)+131072*(D+C+A+z+q)+33554432*((C+A+z+q)+256*(A+z+q)+65536*(z+q)+16777216*q)):=by
 refine⟨?_,?_,?_,?_⟩<;>omega
theorem sum8 (D F G I J M N O:Nat) (S:D<=8) (q:F<=8) (z:G<=8) (A:I<=8) (Y:J<=8) (h5:M<=8) (h6:N<=8) (h7:O<=8) (w t u v:Nat)
  (hw:w=256*(256*(256*(256*(256*(256*(256*(256*0+O)+N)+M)+J)+I)+G)+F)+D) (C:t=w+w / 256) (hu:u=t+t / 65536) (hv:v=u+u / 4294967296) :
  v % 128=D+F+G+I+J+M+N+O/\w<=v/\t<=v/\u<=v/\v<18446744073709551616:=by
 obtain⟨q1,q2,q3,q4⟩:=sum8e D F G I J M N O;rw[q1]at hw;rw[hw,dv 256 _ _ (Nat.lt_of_le_of_lt S (by decide)),q2]at C;rw[C,dv 65536 _ _ (Nat.lt_of_le_of_lt (Nat.add_le_add (Nat.add_le_add S q) (Nat.mul_le_mul_left 256 (Nat.add_le_add q z))) (by decide)),q3]at hu;rw[hu,dv 4294967296 _ _ (Nat.lt_of_le_of_lt (Nat.add_le_add (Nat.add_le_add (Nat.add_le_add (Nat.add_le_add (Nat.add_le_add (Nat.add_le_add S q) z) A) (Nat.mul_le_mul_left 256 (Nat.add_le_add (Nat.add_le_add (Nat.add_le_add q z) A) Y))) (Nat.mul_le_mul_left 65536 (Nat.add_le_add (Nat.add_le_add (Nat.add_le_add z A) Y) h5))) (Nat.mul_le_mul_left 16777216 (Nat.add_le_add (Nat.add_le_add (Nat.add_le_add A Y) h5) h6))) (by decide)),q4]at hv;have a1:w<=t:=by rw[hw,C,<- q2];exact Nat.le_add_right _ _
 have a2:t<=u:=by rw[C,hu,<- q3];exact Nat.le_add_right _ _
 have Q:u<=v:=by rw[hu,hv,<- q4];exact Nat.le_add_right _ _
 refine⟨?_,Nat.le_trans a1 (Nat.le_trans a2 Q),Nat.le_trans a2 Q,Q,?_⟩
 ·have hs:D+F+G+I+J+M+N+O<128:=Nat.lt_of_le_of_lt (Nat.add_le_add (Nat.add_le_add (Nat.add_le_add (Nat.add_le_add (Nat.add_le_add (Nat.add_le_add (Nat.add_le_add S q) z) A) Y) h5) h6) h7) (by decide);rw[hv,Nat.add_mul_mod_self_left,Nat.mod_eq_of_lt hs]
 ·clear a1 a2 Q q1 q2 q3 q4 hw C hu;omega
def popN (x:Nat):Nat:=
 let w:=s3 8 (s2 8 (s1 8 x));let t:=w+w / 256;let u:=t+t / 65536;let v:=u+u / 4294967296
 v % 128
theorem ZCG (x:Nat) (hx:x<2 ^ 37):popN x=bc 37 x:=by
 have h:=sum8 (bc 8 (x % 256)) (bc 8 (x / 256 % 256)) (bc 8 (x / 256 / 256 % 256)) (bc 8 (x / 256 / 256 / 256 % 256)) (bc 8 (x / 256 / 256 / 256 / 256 % 256)) (bc 8 (x / 256 / 256 / 256 / 256 / 256 % 256)) (bc 8 (x / 256 / 256 / 256 / 256 / 256 / 256 % 256)) (bc 8 (x / 256 / 256 / 256 / 256 / 256 / 256 / 256 % 256))
  (Jp _ _) (Jp _ _) (Jp _ _) (Jp _ _) (Jp _ _) (Jp _ _) (Jp _ _) (Jp _ _) (pb 8 x) _ _ _ rfl rfl rfl rfl
 unfold popN;rw[(swar 8 x).1];refine h.1.trans ?_;have z:∀y,bc 8 (y % 256)=bc 8 y:=fun y=>Zh8 8 8 y (Nat.le_refl 8);simp only[z];have A:x / 256 / 256 / 256 / 256 / 256=0:=by omega
 rw[A];simp only[Nat.zero_div,Zgn,Nat.add_zero];rw[show 37=8+(8+(8+(8+5))) from rfl,kU,kU,kU,kU];have q:bc 8 (x / 256 / 256 / 256 / 256)=bc 5 (x / 256 / 256 / 256 / 256):=by
  rw[show 8=5+3 from rfl,kU,show x / 256 / 256 / 256 / 256 / 2 ^ 5=0 by omega,Zgn];rfl
 rw[q];simp only[show (2:Nat) ^ 8=256 from rfl];omega
theorem s1_lt (k x:Nat):s1 k x<256 ^ k:=by
 induction k generalizing x with
 | zero=>simp[s1,rep]
 | succ k q=>
  have:=Z5A (x % 256) (Nat.mod_lt _ (by omega));have:=q (x / 256);rw[Z4M,Nat.pow_succ];omega
theorem s2_le (k x:Nat):255*s2 k (s1 k x)+68<=68*256 ^ k:=by
 induction k generalizing x with
 | zero=>simp[s2,rep]
 | succ k z=>
  have q:x % 256<256:=Nat.mod_lt _ (by omega);obtain⟨b1,b2,b3⟩:=ZhT (x % 256) q;have:=z (x / 256);rw[Z4M,ZgK _ _ _ (Z5A _ q),Nat.pow_succ];omega
theorem ZD6 (x:Nat):let w:=s3 8 (s2 8 (s1 8 x))
  let t:=w+w / 256;let u:=t+t / 65536
  s1 8 x<18446744073709551616/\s2 8 (s1 8 x)+s2 8 (s1 8 x) / 16<18446744073709551616/\w<18446744073709551616/\t<18446744073709551616/\u<18446744073709551616/\u+u / 4294967296<18446744073709551616:=by
 have h:=sum8 (bc 8 (x % 256)) (bc 8 (x / 256 % 256)) (bc 8 (x / 256 / 256 % 256)) (bc 8 (x / 256 / 256 / 256 % 256)) (bc 8 (x / 256 / 256 / 256 / 256 % 256)) (bc 8 (x / 256 / 256 / 256 / 256 / 256 % 256)) (bc 8 (x / 256 / 256 / 256 / 256 / 256 / 256 % 256)) (bc 8 (x / 256 / 256 / 256 / 256 / 256 / 256 / 256 % 256))
  (Jp _ _) (Jp _ _) (Jp _ _) (Jp _ _) (Jp _ _) (Jp _ _) (Jp _ _) (Jp _ _) (pb 8 x) _ _ _ rfl rfl rfl rfl
 intro w t u;have e:w=pb 8 x:=(swar 8 x).1;rw[<- e]at h;have q2:=s2_le 8 x;refine⟨s1_lt 8 x,?_,Nat.lt_of_le_of_lt h.2.1 h.2.2.2.2,Nat.lt_of_le_of_lt h.2.2.1 h.2.2.2.2,Nat.lt_of_le_of_lt h.2.2.2.1 h.2.2.2.2,h.2.2.2.2⟩;clear h e
 clear_value w t u
 generalize s2 8 (s1 8 x)=y at q2;omega
def KO (x:Nat):Nat:=((x >>> 0 &&& 257) <<< 7) ||| ((x >>> 1 &&& 257) <<< 6) ||| ((x >>> 2 &&& 257) <<< 5) ||| ((x >>> 3 &&& 257) <<< 4) ||| ((x >>> 4 &&& 257) <<< 3) ||| ((x >>> 5 &&& 257) <<< 2) ||| ((x >>> 6 &&& 257) <<< 1) ||| ((x >>> 7 &&& 257) <<< 0)
theorem ZGj (a b:Nat):KO (a ||| b)=KO a ||| KO b:=by
 have t:∀i j,((a ||| b) >>> i &&& 257) <<< j=((a >>> i &&& 257) <<< j) ||| ((b >>> i &&& 257) <<< j):=by
  intro i j;rw[Nat.shiftRight_or_distrib,Nat.and_or_distrib_right,Nat.shiftLeft_or_distrib]
 simp only[KO,t]
 ac_rfl
def rv (k x r:Nat):Nat:=match k with
 | 0=>r
 | k+1=>rv k (x / 2) (2*r+x % 2)
theorem YI:∀a<256,KO a=rv 8 a 0/\KO (256*a)=256*rv 8 a 0/\rv 8 a 0<256:=by decide +kernel
theorem Zhp (x:Nat) (hx:x<65536):KO x=256*rv 8 (x / 256) 0+rv 8 (x % 256) 0:=by
 have hl:=YI (x % 256) (Nat.mod_lt _ (by omega));have q:=YI (x / 256) (by omega);have e:x=256*(x / 256) ||| x % 256:=by
  rw[nat_join 8 (256*(x / 256)) (x % 256) (by omega) (by omega)];omega
 conv=>lhs;rw[e]
 rw[ZGj,q.2.1,hl.1,nat_join 8 _ _ (by omega) (by omega)]
theorem Zhr (x:Nat) (hx:x<65536):KO x<65536:=by
 rw[Zhp x hx];have:=(YI (x % 256) (Nat.mod_lt _ (by omega))).2.2;have:=(YI (x / 256) (by omega)).2.2;omega
end Go.Proofs.YtjodhcdmhobmoaaGreatDoor.Na
namespace Go.Proofs.YtjodhcdmhobmoaaGreatDoor
open Go Go.Proofs.YtjodhcdmhobmoaaGreatDoor.Le
theorem Gh {n:Int} (h : -9223372036854775808<=n) (q : n<=9223372036854775807):AQ n=n:=by
 simp only[AQ,IntKind.wrap,IntKind.signed,IntKind.bits];simp;omega
def cl (z q x:Int):Int:=max z (min x q)
theorem cl1 (q z x:Int) (h:q<=z):(if z<(if q>x then q else x) then z else (if q>x then q else x))=cl q z x:=by unfold cl;split<;>split<;>omega
theorem cl2 (z q x:Int) (h:z<=q):(if (if q<x then q else x)>z then (if q<x then q else x) else z)=cl z q x:=by unfold cl;split<;>split<;>omega
def Qs (s:GV):Bool:=decide (s.f_low<=s.Vr)&&decide (s.Vr<=s.yJ)
theorem Zzm (xs:List GV) (hl:xs.length<1000):∀(k i:Nat),i+k=xs.length->AU aQ (.b1 xs xs.length i)=some ((xs.drop i).all Qs):=by
 intro k;induction k with
 | zero=>
  intro i A;refine(Aa _ _).trans ?_;simp only[aQ,DN];rw[show decide ((i:Int)<(xs.length:Int))=false by simp;omega,List.drop_of_length_le (by omega)];rfl
 | succ k C=>
  intro i A;have hx:i<xs.length:=by omega
  refine(Aa _ _).trans ?_;simp only[aQ,DN];rw[show decide ((i:Int)<(xs.length:Int))=true by simp;omega];rw[show decide (0<=(i:Int)/\(i:Int)<(xs.length:Int))=true by simp;omega];simp only[cond_true,Int.toNat_natCast,List.getElem?_eq_getElem hx,Option.bind_some];rw[List.drop_eq_getElem_cons hx,List.all_cons]
  by_cases q:(xs[i]).Vr<(xs[i]).f_low
  ·rw[decide_eq_true q,show Qs xs[i]=false by simp[Qs];omega];rfl
  ·by_cases z:(xs[i]).Vr>(xs[i]).yJ
   ·rw[decide_eq_false q,decide_eq_true z,show Qs xs[i]=false by simp[Qs];omega];rfl
   ·rw[decide_eq_false q,decide_eq_false z,show Qs xs[i]=true by simp[Qs];omega];simp only[cond_false,Bool.true_and];refine(Aa _ _).trans ?_;simp only[aQ,DN];rw[Gh (by omega) (by omega)];exact C (i+1) (by omega)
theorem ZnB (xs:List GV) (hl:xs.length<1000):Z0V xs=some (xs.all Qs):=
 (Aa _ _).trans (Zzm xs hl xs.length 0 (by simp))
theorem ZsG (x q z:Int):PH x q z=some (decide (q<=x)&&decide (x<=z)):=(Aa _ _).trans (by
 simp only[Z2k,DN]
 by_cases h:x>=q
 ·rw[decide_eq_true h];simp
 ·rw[decide_eq_false h];simp)
def inB (x z q:Int):Bool:=decide (z<=x)&&decide (x<=q)
def He (u:D5):Int:=
 if !(inB u.EK 1 8&&inB u.Dx 0 3200&&inB u.D9 6 3200&&inB u.Dh 0 499&&inB u.ER 10 3200) then 5
 else if u.EK>=u.D9 then 11 else if u.Dx>u.D9 then 11
 else if (AQ (u.ER*(10000:Int)))<=(AQ ((AQ ((AQ ((2:Int)*(AQ (u.Dh+(1:Int)))))*u.D9))*(1250:Int))) then 11 else 0
theorem Rn (u:D5):nS u=some (He u):=(Aa _ _).trans (by
 simp only[Z7f,DN];rw[ZnB _ (by simp)];simp only[List.all_cons,List.all_nil,Qs,Bool.and_true,Option.bind_some,List.length_cons,List.length_nil,He,inB,Bool.and_assoc];generalize (decide (1<=u.EK)&&_)=b;cases b with
 | false=>rfl
 | true=>
  by_cases q:u.EK>=u.D9
  ·simp[q]
  ·by_cases z:u.Dx>u.D9
   ·simp[q,z]
   ·by_cases A:(AQ (u.ER*(10000:Int)))<=(AQ ((AQ ((AQ ((2:Int)*(AQ (u.Dh+(1:Int)))))*u.D9))*(1250:Int)))
    ·simp[q,z,A]
    ·simp[q,z,A])
theorem Zn6 (u:D5):aJ u=some (He u):=(Aa _ _).trans (by
 simp only[pK,DN,ZsG,Option.bind_some,He];rw[show (decide (1<=u.EK)&&decide (u.EK<=8))=inB u.EK 1 8 from rfl];rw[show (decide (0<=u.Dx)&&decide (u.Dx<=3200))=inB u.Dx 0 3200 from rfl];rw[show (decide (6<=u.D9)&&decide (u.D9<=3200))=inB u.D9 6 3200 from rfl];rw[show (decide (0<=u.Dh)&&decide (u.Dh<=499))=inB u.Dh 0 499 from rfl];rw[show (decide (10<=u.ER)&&decide (u.ER<=3200))=inB u.ER 10 3200 from rfl];cases inB u.EK 1 8<;>first|rfl|skip
 cases inB u.Dx 0 3200<;>first|rfl|skip
 cases inB u.D9 6 3200<;>first|rfl|skip
 cases inB u.Dh 0 499<;>first|rfl|skip
 cases inB u.ER 10 3200<;>first|rfl|skip
 simp only[Bool.not_true,cond_false,Bool.and_true,Bool.false_eq_true,if_false];refine(Aa _ _).trans ?_;simp only[pK,DN]
 by_cases q:u.EK>=u.D9
 ·simp[q]
 ·by_cases z:u.Dx>u.D9
  ·simp[q,z]
  ·by_cases A:(AQ (u.ER*(10000:Int)))<=(AQ ((AQ ((AQ ((2:Int)*(AQ (u.Dh+(1:Int)))))*u.D9))*(1250:Int)))
   ·simp[q,z,A]
   ·simp[q,z,A])
def fresh:List BJ:=List.replicate 37 ⟨0,0⟩
open Go Go.Proofs.YtjodhcdmhobmoaaGreatDoor.Le Go.Proofs.YtjodhcdmhobmoaaGreatDoor.Na
set_option maxRecDepth 100000
theorem YV {n:Nat} (h:n<18446744073709551616):IntKind.u64.wrap (n:Int)=n:=by
 rw[show IntKind.u64.wrap (n:Int)=(n:Int) % 18446744073709551616 by simp[IntKind.wrap,IntKind.bits,IntKind.signed]];omega
theorem fd (n k:Nat):Int.fdiv (n:Int) (2 ^ k)=((n / 2 ^ k:Nat):Int):=by
 rw[Int.fdiv_eq_ediv_of_nonneg _ (Int.le_of_lt (Int.pow_pos (by decide)))];rw[Int.natCast_ediv];simp
def J1 (a:Int):Int:=IntKind.wrap .u64 ((bits .and .u64 (Int.fdiv a (2 ^ (1:Nat))) (6148914691236517205:Int))+(bits .and .u64 a (6148914691236517205:Int)))
def J2 (a:Int):Int:=IntKind.wrap .u64 ((bits .and .u64 (Int.fdiv a (2 ^ (2:Nat))) (3689348814741910323:Int))+(bits .and .u64 a (3689348814741910323:Int)))
def J3 (a:Int):Int:=bits .and .u64 (IntKind.wrap .u64 ((Int.fdiv a (2 ^ (4:Nat)))+a)) (1085102592571150095:Int)
def J4 (k:Nat) (a:Int):Int:=IntKind.wrap .u64 (a+(Int.fdiv a (2 ^ k)))
theorem j1 (n:Nat) (q:n<18446744073709551616) (h:s1 8 n<18446744073709551616):J1 (n:Int)=(s1 8 n:Nat):=by
 unfold J1;rw[fd,show (6148914691236517205:Int)=((6148914691236517205:Nat):Int) from rfl,u64_and_nat _ _ (by omega) (by decide),u64_and_nat _ _ q (by decide),<- Int.natCast_add];exact YV h
theorem j2 (n:Nat) (q:n<18446744073709551616) (h:s2 8 n<18446744073709551616):J2 (n:Int)=(s2 8 n:Nat):=by
 unfold J2;rw[fd,show (3689348814741910323:Int)=((3689348814741910323:Nat):Int) from rfl,u64_and_nat _ _ (by omega) (by decide),u64_and_nat _ _ q (by decide),<- Int.natCast_add];exact YV h
theorem j3 (n:Nat) (h:n+n / 16<18446744073709551616):J3 (n:Int)=(s3 8 n:Nat):=by
 unfold J3;rw[fd,<- Int.natCast_add,YV (by omega),show (1085102592571150095:Int)=((1085102592571150095:Nat):Int) from rfl,u64_and_nat _ _ (by omega) (by decide)];rfl
theorem j4 (k n:Nat) (h:n+n / 2 ^ k<18446744073709551616):J4 k (n:Int)=((n+n / 2 ^ k:Nat):Int):=by
 unfold J4;rw[fd,<- Int.natCast_add,YV h]
theorem Zoo (a:Int):nN a=some (bits .and .i64 (AQ (J4 32 (J4 16 (J4 8 (J3 (J2 (J1 a))))))) 127):=(Aa _ _).trans rfl
theorem ZEg (n:Int):AQ n % 128=n % 128:=by
 simp only[AQ,IntKind.wrap,IntKind.signed,IntKind.bits];simp;split<;>omega
theorem Zqb (n:Nat) (F:n<2 ^ 37):nN (n:Int)=some ((bc 37 n:Nat):Int):=by
 rw[Zoo];have h:=ZD6 n;simp only at h;obtain⟨q,z,G,A,C,D⟩:=h;rw[j1 _ (by omega) q,j2 _ q (by omega),j3 _ z,j4 8 _ A,j4 16 _ C,j4 32 _ D];rw[<- ZCG n F,i64_and127,ZEg];rfl
theorem ZfZ (n c:Nat) (q:n<18446744073709551616):hasB (n:Int) c=(n / 2 ^ c % 2==1):=by
 unfold hasB;rw[show ((n:Int) / 2 ^ c)=((n / 2 ^ c:Nat):Int) by rw[Int.natCast_ediv];simp];have hb:n / 2 ^ c<18446744073709551616:=Nat.lt_of_le_of_lt (Nat.div_le_self _ _) q;rw[show (1:Int)=((1:Nat):Int) from rfl,u64_and_nat _ _ hb (by decide),nat_mask1];generalize n / 2 ^ c % 2=x
 by_cases h:x=1
 ·subst h;rfl
 ·rw[show (x==1)=false by simpa using h];simpa using fun z =>h (by omega)
theorem ZEe (n:Nat) (q:n<18446744073709551616) (k:Nat):(FV (n:Int) k).length=bc k n:=by
 induction k with
 | zero=>rfl
 | succ k z=>
  rw[Z4g,List.length_append,z,ZfZ _ _ q];simp only[bc];rcases Nat.mod_two_eq_zero_or_one (n / 2 ^ k) with h|h<;>simp[h]
theorem ZEq (n:Nat) (q:n<18446744073709551616):bits .and .u64 (n:Int) 137438953471=((n % 2 ^ 37:Nat):Int):=by
 rw[show (137438953471:Int)=((137438953471:Nat):Int) from rfl,u64_and_nat _ _ q (by decide),Nat.and_two_pow_sub_one_eq_mod _ 37]
def cnt (m:Int):Int:=((FV m 37).length:Int)
theorem ZGE (m:Int):0<=cnt m/\cnt m<=37:=by
 unfold cnt FV;have q:=List.length_filter_le (hasB m) (List.range 37);rw[List.length_range]at q;exact⟨by omega,by omega⟩
theorem Z1n (n:Nat) (q:n<18446744073709551616):Wn (n:Int)=some (cnt (n:Int)):=(Aa _ _).trans (by
 simp only[Z9o,DN,ZEq n q];rw[Zqb _ (Nat.mod_lt _ (by decide))];simp only[Option.bind_some,cnt,ZEe n q,Zh8 37 37 n (Nat.le_refl _)])
def has (m c:Int):Bool:=decide (0<=c)&&(decide (c<37)&&hasB m c.toNat)
theorem ZaB (m c:Int) (hm:0<=m):rG m c=some (has m c):=(Aa _ _).trans (by
 simp only[Zam,DN,has]
 by_cases q:c>=0
 ·by_cases z:c<37
  ·rw[decide_eq_true q,decide_eq_true z];simp only[cond_true,Bool.true_and,hasB];rw[show min c.toNat IntKind.u64.bits=c.toNat from Nat.min_eq_left (by simp[IntKind.bits];omega)];rw[Int.fdiv_eq_ediv_of_nonneg _ (Int.le_of_lt (Int.pow_pos (by decide)))]
  ·rw[decide_eq_true q,decide_eq_false z];simp
 ·rw[decide_eq_false q];simp)
theorem ZBk (k:Nat) (hk:k<=63):∀j i:Nat,i+j=k->AU XO (.b1 k ((2 ^ i:Nat):Int) i)=some ((2 ^ k:Nat):Int):=by
 intro j;induction j with
 | zero=>
  intro i q;refine(Aa _ _).trans ?_;simp only[XO,DN];rw[show decide ((i:Int)<(k:Int))=false by simp;omega,show i=k by omega];rfl
 | succ j z=>
  intro i q;refine(Aa _ _).trans ?_;simp only[XO,DN];have hp:2 ^ (i+1)<=2 ^ 63:=Nat.pow_le_pow_right (by decide) (by omega);rw[show decide ((i:Int)<(k:Int))=true by simp;omega];simp only[cond_true];rw[show ((2 ^ i:Nat):Int)*2=((2 ^ (i+1):Nat):Int) by rw[Nat.pow_succ];simp,YV (by omega),Gh (by omega) (by omega)];exact z (i+1) (by omega)
theorem Zc0 (k:Nat) (hk:k<=63):Uk (k:Int)=some ((2 ^ k:Nat):Int):=(Aa _ _).trans (ZBk k hk k 0 (by omega))
theorem Z43 (n:Nat) (A:n<18446744073709551616) (c:Int):X9 (n:Int) c=some (has (n:Int) c):=(Aa _ _).trans (by
 simp only[Z3P,DN,has]
 by_cases q:c>=0
 ·by_cases z:c<=36
  ·rw[decide_eq_true q,decide_eq_true z,decide_eq_true (show c<37 by omega)];obtain⟨k,rfl⟩:∃k:Nat,c=k:=⟨c.toNat,by omega⟩;have hp:0<2 ^ k:=Nat.pow_pos (by decide);simp only[cond_true,Bool.true_and,Int.toNat_natCast];rw[Zc0 k (by omega),ZfZ _ _ A];simp only[Option.bind_some];rw[show (((2 ^ k:Nat):Int) != 0)=true from bne_iff_ne.mpr (Int.natCast_ne_zero.mpr (Nat.pos_iff_ne_zero.mp hp))];simp only[cond_true];rw[Int.tdiv_eq_ediv_of_nonneg (Int.natCast_nonneg _),<- Int.natCast_ediv,YV (Nat.lt_of_le_of_lt (Nat.div_le_self _ _) A),Int.tmod_eq_emod_of_nonneg (Int.natCast_nonneg _)];generalize n / 2 ^ k=x;rcases Nat.mod_two_eq_zero_or_one x with h|h
   ·rw[show ((x:Int) % 2)=0 by omega,h];rfl
   ·rw[show ((x:Int) % 2)=1 by omega,h];rfl
  ·rw[decide_eq_true q,decide_eq_false z,decide_eq_false (show ¬c<37 by omega)];simp
 ·rw[decide_eq_false q];simp)
theorem ZCQ (m:Int) (c:Nat) (hc:c<37):has m c=hasB m c:=by
 unfold has;rw[decide_eq_true (show (0:Int)<=c by omega),decide_eq_true (show (c:Int)<37 by omega)];rfl
def LP (m:Int) (k:Nat):List Int:=(FV m k).map fun c:Nat=>(c:Int)
theorem ZFU (m:Int) (k:Nat):(FV m k).length<=k:=by
 have q:=List.length_filter_le (hasB m) (List.range k);rw[List.length_range]at q;exact q
theorem ZzK (n:Nat) (C:n<18446744073709551616):∀j i:Nat,i+j=37->AU Q4 (.b1 n (LP n i) i)=some (LP n 37):=by
 intro j;induction j with
 | zero=>
  intro i A;refine(Aa _ _).trans ?_;simp only[Q4,DN];rw[show decide ((i:Int)<=36)=false by simp;omega,show i=37 by omega];simp
 | succ j D=>
  intro i A;have hb:∀xs:List Int,AU Q4 (.b2 n xs i)=AU Q4 (.b1 n xs (i+1:Nat)):=fun xs=>(Aa _ _).trans (by
   simp only[Q4,DN];rw[Gh (by omega) (by omega)];simp)
  have hl:(LP n i).length<=37:=by
   rw[LP,List.length_map];have:=ZFU n i;omega
  refine(Aa _ _).trans ?_;simp only[Q4,DN];rw[show decide ((i:Int)<=36)=true by simp;omega];simp only[cond_true,Z43 n C,Option.bind_some,ZCQ (n:Int) i (by omega)];have e:LP n (i+1)=LP n i++if hasB n i then [(i:Int)] else []:=by
   simp only[LP,Z4g,List.map_append];split<;>rfl
  have q:=D (i+1) (by omega);rw[e]at q;cases z:hasB (n:Int) i with
  | true=>
   rw[z]at q;simp only[if_true]at q;simp only[cond_true,List.length_cons,List.length_nil,beq_self_eq_true];rw[show (decide (((LP n i).length+(0+1))*8<=lim)&&decide ((LP n i).length+(0+1)<=maxLen))=true from
    Bool.and_eq_true_iff.mpr ⟨decide_eq_true (Nat.le_trans (show _<=1000 by omega) (by decide)),decide_eq_true (Nat.le_trans (show _<=1000 by omega) (by decide))⟩]
   simp only[cond_true,hb];exact q
  | false=>
   rw[z]at q;simp only[Bool.false_eq_true,if_false,List.append_nil]at q;simp only[cond_false,beq_self_eq_true,cond_true,hb];exact q
theorem ZdI (n:Nat) (q:n<18446744073709551616):X0 (n:Int)=some (LP n 37):=(Aa _ _).trans (by
 simp only[Q4,DN,List.length_nil,beq_self_eq_true,cond_true];exact ZzK n q 37 0 (by omega))
theorem Z4N (m:Int):((LP m 37).length:Int)=cnt m:=by unfold LP cnt;rw[List.length_map]
theorem Z2y (n:Nat) (q:n<18446744073709551616):XQ (n:Int)=some (cnt (n:Int)):=(Aa _ _).trans (by
 simp only[Z2l,DN,ZdI n q,Option.bind_some,Z4N])
theorem ZeH (n:Nat) (C:n<18446744073709551616) (i:Int):jC (n:Int) i=some (OI n i):=(Aa _ _).trans (by
 simp only[wE,DN,ZdI n C,Option.bind_some,Z4N,OI]
 by_cases z:i<0
 ·rw[decide_eq_true z,if_neg (by omega)];rfl
 ·by_cases q:i>=cnt n
  ·rw[decide_eq_false z,decide_eq_true q,if_neg (by unfold cnt at q;omega)];rfl
  ·rw[decide_eq_false z,decide_eq_false q,if_pos (by unfold cnt at q;omega)];simp only[cond_false];refine(Aa _ _).trans ?_;simp only[wE,DN,Z4N];rw[decide_eq_true (show 0<=i/\i<cnt n by omega)];simp only[cond_true];have A:i.toNat<(FV n 37).length:=by unfold cnt at q;omega
   rw[show (LP n 37)[i.toNat]? = some (((FV (n:Int) 37)[i.toNat]:Nat):Int) by
    unfold LP;rw[List.getElem?_map,List.getElem?_eq_getElem A];rfl]
   rw[List.getElem?_eq_getElem A];rfl)
def Ij (m:Int):Int:=if m>=137438953472 then 5 else if cnt m<2 then 1 else 0
theorem ZvI (n:Nat) (q:n<18446744073709551616):(bits .andNot .u64 (n:Int) 137438953471 != 0)=decide ((n:Int)>=137438953472):=by
 rw[show (137438953471:Int)=((137438953471:Nat):Int) from rfl,u64_andNot_nat _ _ q (by decide)];have e:n &&& (18446744073709551615 - 137438953471)=2 ^ 37*(n / 2 ^ 37):=by
  refine Nat.eq_of_testBit_eq fun j=>?_;rw[Nat.testBit_and,show 18446744073709551615 - 137438953471=2 ^ 37*(2 ^ 27 - 1)+0 from rfl,Nat.testBit_two_pow_mul_add _ (by decide),show 2 ^ 37*(n / 2 ^ 37)=2 ^ 37*(n / 2 ^ 37)+0 from rfl,Nat.testBit_two_pow_mul_add _ (by decide)];split
  ·simp
  ·rename_i z;rw[Nat.testBit_div_two_pow,Nat.testBit_two_pow_sub_one,show j - 37+37=j by omega]
   by_cases h:j - 37<27
   ·simp[h]
   ·have:n.testBit j=false:=Nat.testBit_lt_two_pow (Nat.lt_of_lt_of_le q (by
     have:2 ^ 64<=2 ^ j:=Nat.pow_le_pow_right (by decide) (by omega);simpa using this))
    simp[this]
 rw[e]
 by_cases h:(n:Int)>=137438953472
 ·rw[decide_eq_true h];simp;omega
 ·rw[decide_eq_false h,show n / 2 ^ 37=0 by omega];rfl
theorem Zoz (n:Nat) (z:n<18446744073709551616):Z1f (n:Int)=some (Ij n):=(Aa _ _).trans (by
 simp only[Z9q,DN,ZvI n z,Z1n n z,Option.bind_some,Ij]
 by_cases h:(n:Int)>=137438953472
 ·rw[decide_eq_true h,if_pos h];rfl
 ·rw[decide_eq_false h,if_neg h]
  by_cases q:cnt n<2
  ·rw[decide_eq_true q,if_pos q];rfl
  ·rw[decide_eq_false q,if_neg q];rfl)
theorem Zvw (n:Nat) (z:n<18446744073709551616):fC (n:Int)=some (Ij n):=(Aa _ _).trans (by
 simp only[Z2E,DN];rw[show Uk 37=some 137438953472 from Zc0 37 (by decide)];simp only[Z2y n z,Option.bind_some,Ij]
 by_cases h:(n:Int)>=137438953472
 ·rw[decide_eq_true h,if_pos h];rfl
 ·rw[decide_eq_false h,if_neg h]
  by_cases q:cnt n<2
  ·rw[decide_eq_true q,if_pos q];rfl
  ·rw[decide_eq_false q,if_neg q];rfl)
def kZ (m c:Int):Int:=if has m (cl 0 36 c) then cl 0 36 c else if cnt m=0 then -1 else OI m (Int.tmod (cl 0 36 c) (cnt m))
theorem Zad (m i:Int):rO m i=some (OI m i):=rfl
theorem Zog (n:Nat) (q:n<18446744073709551616) (c:Int):Z1d (n:Int) c=some (kZ n c):=(Aa _ _).trans (by
 simp only[Z9s,DN,ZaB (n:Int) _ (Int.natCast_nonneg n),Z1n n q,Zad,Option.bind_some,cl1 0 36 c (by decide),kZ];cases has (n:Int) (cl 0 36 c) with
 | true=>rfl
 | false=>
  by_cases h:cnt n=0
  ·rw[h];rfl
  ·rw[show (cnt (n:Int)==0)=false by simpa using h,show (cnt (n:Int) != 0)=true by simpa using h];simp[h])
theorem Zv9 (n:Nat) (q:n<18446744073709551616) (c:Int):uD (n:Int) c=some (kZ n c):=(Aa _ _).trans (by
 simp only[Z2V,DN,Z43 n q,Z2y n q,ZeH n q,Option.bind_some,cl2 0 36 c (by decide),kZ];cases has (n:Int) (cl 0 36 c) with
 | true=>rfl
 | false=>
  by_cases h:cnt n=0
  ·rw[h];rfl
  ·rw[show (cnt (n:Int)==0)=false by simpa using h,show (cnt (n:Int) != 0)=true by simpa using h];simp[h])
def R8 (n:Int):Prop:=0<=n/\n<256
def R16 (n:Int):Prop:=0<=n/\n<65536
def R32 (n:Int):Prop:=0<=n/\n<4294967296
def CU (n:Int):Prop:=0<=n/\n<18446744073709551616
inductive CV:AO->Prop
 | upd (u:D5) (i:Int):He u=0->R16 i->CV ⟨0,u,0,i,0,0,0,0,0,0,0⟩
 | map (m i:Int):CU m->Ij m=0->R16 i->CV ⟨1,Be,m,i,0,0,0,0,0,0,0⟩
 | term (r:Int):R8 r->CV ⟨2,Be,0,0,r,0,0,0,0,0,0⟩
 | enc (s m:Int):CU s->CU m->CV ⟨3,Be,0,0,0,0,s,m,0,0,0⟩
 | ans (s:Int):CU s->CV ⟨4,Be,0,0,0,0,s,0,0,0,0⟩
 | plain (k:Int):(k=5\/k=6\/k=18\/k=19)->CV ⟨k,Be,0,0,0,0,0,0,0,0,0⟩
 | UB (r:Int):R8 r->CV ⟨7,Be,0,0,0,r,0,0,0,0,0⟩
 | Y2 (k f:Int):(k=8\/k=9)->CU f->CV ⟨k,Be,0,0,0,0,0,0,f,0,0⟩
 | WE (v:Int):R8 v->CV ⟨12,Be,0,0,0,0,0,0,0,v,0⟩
 | UC (r k:Int):R8 r->R8 k->CV ⟨13,Be,0,0,r,k,0,0,0,0,0⟩
 | par (u:D5):He u=0->CV ⟨15,u,0,0,0,0,0,0,0,0,0⟩
 | len (k n:Int):(k=20\/k=21)->27<=n->n<=251->CV ⟨k,Be,0,0,0,0,0,0,0,0,n⟩
theorem CV.ZFC {c:AO} (h:CV c) (hk:c.Kind=20):27<=c.Length/\c.Length<=251:=by
 cases h<;>first|(dsimp only at hk;omega)|exact⟨by assumption,by assumption⟩
theorem CV.inst {c:AO} {i:Int} (h:CV c) (hk:c.Kind=0\/c.Kind=1) (q:R16 i):CV { c with Ci:=i }:=by
 cases h<;>first|(dsimp only at hk;omega)|exact CV.upd _ _ (by assumption) q|exact CV.map _ _ (by assumption) (by assumption) q
def DZ (l:List Int):Prop:=∀b∈l,R8 b
theorem Zhf (n:Int):R8 (IntKind.wrap .u8 n):=by unfold R8;rw[IntKind.wrap_u8];omega
theorem Zh1 (n:Int):R16 (IntKind.wrap .u16 n):=by unfold R16;rw[IntKind.wrap_u16];omega
theorem Zga (n:Int):R32 (IntKind.wrap .u32 n):=by unfold R32;rw[IntKind.wrap_u32];omega
theorem IP (n:Int):CU (IntKind.wrap .u64 n):=by unfold CU;rw[IntKind.wrap_u64];omega
theorem ZFS (o:BinOp) (a b:Int):R8 (bits o .u8 a b):=Zhf _
theorem ZDY (o:BinOp) (a b:Int):R16 (bits o .u16 a b):=Zh1 _
theorem ZDg (o:BinOp) (a b:Int):R32 (bits o .u32 a b):=Zga _
theorem ZDz (o:BinOp) (a b:Int):CU (bits o .u64 a b):=IP _
theorem Js:CU 0:=by unfold CU;omega
theorem ZGa:CU 63:=by unfold CU;omega
theorem kY:R16 0:=by unfold R16;omega
theorem Z5B:R32 0:=by unfold R32;omega
theorem ZgQ:DZ []:=fun _ h=>nomatch h
theorem ZEj (a b:List Int):DZ (a++b)↔DZ a/\DZ b:=by simp only[DZ,List.mem_append];exact⟨fun h=>⟨fun x hx=>h x (.inl hx),fun x hx=>h x (.inr hx)⟩,fun h x hx=>hx.elim (h.1 x) (h.2 x)⟩
theorem ZBb (a:Int) (b:List Int):DZ (a::b)↔R8 a/\DZ b:=by simp only[DZ,List.mem_cons,forall_eq_or_imp]
theorem ZBX (n:Nat) (l:List Int) (h:DZ l):DZ (l.take n):=fun x hx=>h x (List.mem_of_mem_take hx)
theorem ZBc (n:Nat) (l:List Int) (h:DZ l):DZ (l.drop n):=fun x hx=>h x (List.mem_of_mem_drop hx)
theorem ZEh {l:List Int} (h:DZ l) {x:Int} (hx:x∈l):R8 x:=h x hx
theorem ZwM (xs:List Int):Le.bytesOf (xs.map (U.enc 5))=some (xs.map fun n=>UInt8.ofNat n.toNat):=by
 induction xs with
 | nil=>rfl
 | cons x xs z=>
  rw[List.map_cons];show (match Le.byteOf (U.enc 5 x),Le.bytesOf (xs.map (U.enc 5)) with|some b,some q=>some (b::q)|_,_=>none)=_;rw[z];rfl
theorem IX (xs:List Int) (h:xs.length<=1000000):Jm U 5 xs=true:=by
 unfold Jm;rw[ZwM];exact decide_eq_true (by rw[List.length_map];exact Nat.le_trans (Nat.le_trans h (by decide)) (by decide:1000000000<=maxLen))
def CY (c:AO):Prop:=CU c.Map/\R16 c.Ci/\CU c.Bj/\CU c.Mark/\CU c.Bv/\0<=c.Kind
theorem CV.ct {c:AO} (h:CV c):CY c:=by
 cases h<;>refine⟨?_,?_,?_,?_,?_,?_⟩<;>first|assumption|exact Js|exact kY|(dsimp only;omega)
theorem CV.unkK (k:Int):CV ⟨7,Be,0,0,0,(if (255:Int)<(if (0:Int)>k then (0:Int) else k) then (255:Int) else (if (0:Int)>k then (0:Int) else k)),0,0,0,0,0⟩:=CV.UB _ (by unfold R8;split<;>split<;>omega)
theorem CV.unkW {x:Int} (h:R8 x):CV ⟨7,Be,0,0,0,AQ x,0,0,0,0,0⟩:=by obtain⟨q,z⟩:=h;rw[Ce (by omega) (by omega)];exact CV.UB _ ⟨q,z⟩
theorem CV.rejK:CV ⟨13,Be,0,0,6,3,0,0,0,0,0⟩:=CV.UC _ _ ⟨by decide,by decide⟩ ⟨by decide,by decide⟩
theorem CV.rejC:CV ⟨13,Be,0,0,42,15,0,0,0,0,0⟩:=CV.UC _ _ ⟨by decide,by decide⟩ ⟨by decide,by decide⟩
theorem CV.verK:CV ⟨12,Be,0,0,0,0,0,0,0,11,0⟩:=CV.WE _ ⟨by decide,by decide⟩
def MW (c:BG):Prop:=CU c.Map/\R16 c.Ci
def FX (l:List AO):Prop:=∀c∈l,CV c
def GG (l:List BG):Prop:=∀c∈l,MW c
def Cb (p:Aq):Prop:=p.Payload.length<=65536/\DZ p.Payload
def mG (b:List Int):Prop:=∃c,JD b=some (c,0)
def F6 (p:Aq):Prop:=1<=p.BP/\p.BP<=3/\1<=p.Payload.length/\p.Payload.length<=251/\DZ p.Payload/\(p.BP=3->mG p.Payload)
def KN (l:List Aq):Prop:=∀p∈l,F6 p
def Ee (n:Int):Prop:=n=0\/n=1
theorem ZGO:Ee 0:=.inl rfl
theorem ZGQ:Ee 1:=.inr rfl
theorem ZyP {n:Int} (h:Ee n):Ee (AQ (1 - n)):=by rcases h with rfl|rfl<;>first|exact .inr rfl|exact .inl rfl
def Dl (a:BQ):Prop:=Ee a.SN/\Ee a.DX/\a.Az.length<=64/\KN a.Az/\(a.Open=true->a.Empty=false->0<a.Az.length)
def BM (s:A7):Prop:=s.Ah.length<=8/\s.Ak.length<=1/\FX s.Ah/\GG s.Ak/\CU s.Bv/\CU s.Bj/\CU s.F5/\CU s.Mark/\Ee s.BK /\ -1<=s.Own /\ -1<=s.Other/\27<=s.Limit/\s.Limit<=251
def Hr (s:Bc):Prop:=CU s.Key/\CU s.Bj/\CU s.Tx/\CU s.Rx
def KL (p:FW):Prop:=R32 p.Il/\R32 p.LJ/\CU p.Map
def BR (k:Int) (l:Ac):Prop:=Dl l.Ar/\BM l.AA/\Hr l.Bq/\KL l.DR/\(l.Ag.length:Int)<=k/\FX l.Ag/\l.CX.length<=37/\R16 l.Event/\CU l.Key/\CU l.IC/\Ee l.BK
def Fj (a:Hg):Prop:=Cb a.Ap/\a.Ap.Payload.length<=4096/\CU a.Map/\CU a.Number/\CU a.Key
def Ze (a:Hg):Prop:=DZ a.Ap.Payload/\CU a.Map/\CU a.Number/\CU a.Key
def J7 (e:FD):Prop:=∀a∈e.Tc,Ze a
theorem ZC9 {e:FD} (h:J7 e) {a:Hg} (q:a∈e.Tc):Ze a:=h a q
def EE (k:Int) (s:Cm):Prop:=BR k s.x0/\BR k s.x1
theorem IM {a b:Int} {l:Ac} (h:BR a l) (q:a<=b):BR b l:=⟨h.1,h.2.1,h.2.2.1,h.2.2.2.1,Int.le_trans h.2.2.2.2.1 q,h.2.2.2.2.2⟩
theorem Ih {a b:Int} {s:Cm} (h:EE a s) (q:a<=b):EE b s:=⟨IM h.1 q,IM h.2 q⟩
def evL (l:List FD):Prop:=∀e∈l,J7 e
theorem ZDi {l:List FD} (h:evL l) {e:FD} (q:e∈l):J7 e:=h e q
def FB (x:Jc):Prop:=KL x.DR/\CU x.Keys.x0/\CU x.Keys.x1/\evL x.Events
def IV (l:List Int):Prop:=∀x∈l,0<=x/\x<=36
theorem ZBz:IV []:=fun _ h=>nomatch h
theorem ZB6 (a b:List Int):IV (a++b)↔IV a/\IV b:=by simp only[IV,List.mem_append];exact⟨fun h=>⟨fun x hx=>h x (.inl hx),fun x hx=>h x (.inr hx)⟩,fun h x hx=>hx.elim (h.1 x) (h.2 x)⟩
theorem ZAz (a:Int) (b:List Int):IV (a::b)↔(0<=a/\a<=36)/\IV b:=by simp only[IV,List.mem_cons,forall_eq_or_imp]
theorem ZAU (n:Nat) (l:List Int) (h:IV l):IV (l.take n):=fun x hx=>h x (List.mem_of_mem_take hx)
theorem ZyF (n:Nat) (l:List Int) (h:IV l):IV (l.drop n):=fun x hx=>h x (List.mem_of_mem_drop hx)
theorem ZBJ {l:List Int} (h:IV l) {x:Int} (hx:x∈l):0<=x/\x<=36:=h x hx
theorem ZEv:FX []:=fun _ h=>nomatch h
theorem ZDW (a b:List AO):FX (a++b)↔FX a/\FX b:=by simp only[FX,List.mem_append];exact⟨fun h=>⟨fun x hx=>h x (.inl hx),fun x hx=>h x (.inr hx)⟩,fun h x hx=>hx.elim (h.1 x) (h.2 x)⟩
theorem ZBT (a:AO) (b:List AO):FX (a::b)↔CV a/\FX b:=by simp only[FX,List.mem_cons,forall_eq_or_imp]
theorem ZCi (n:Nat) (l:List AO) (h:FX l):FX (l.take n):=fun x hx=>h x (List.mem_of_mem_take hx)
theorem ZBa (n:Nat) (l:List AO) (h:FX l):FX (l.drop n):=fun x hx=>h x (List.mem_of_mem_drop hx)
theorem ZDF {l:List AO} (h:FX l) {x:AO} (hx:x∈l):CV x:=h x hx
theorem ZC7:GG []:=fun _ h=>nomatch h
theorem ZBP (a b:List BG):GG (a++b)↔GG a/\GG b:=by simp only[GG,List.mem_append];exact⟨fun h=>⟨fun x hx=>h x (.inl hx),fun x hx=>h x (.inr hx)⟩,fun h x hx=>hx.elim (h.1 x) (h.2 x)⟩
theorem ZAF (a:BG) (b:List BG):GG (a::b)↔MW a/\GG b:=by simp only[GG,List.mem_cons,forall_eq_or_imp]
theorem ZCj {l:List BG} (h:GG l) {x:BG} (hx:x∈l):MW x:=h x hx
theorem Zg9:KN []:=fun _ h=>nomatch h
theorem ZDI (a b:List Aq):KN (a++b)↔KN a/\KN b:=by simp only[KN,List.mem_append];exact⟨fun h=>⟨fun x hx=>h x (.inl hx),fun x hx=>h x (.inr hx)⟩,fun h x hx=>hx.elim (h.1 x) (h.2 x)⟩
theorem ZBM (a:Aq) (b:List Aq):KN (a::b)↔F6 a/\KN b:=by simp only[KN,List.mem_cons,forall_eq_or_imp]
theorem ZCd (n:Nat) (l:List Aq) (h:KN l):KN (l.take n):=fun x hx=>h x (List.mem_of_mem_take hx)
theorem ZBI (n:Nat) (l:List Aq) (h:KN l):KN (l.drop n):=fun x hx=>h x (List.mem_of_mem_drop hx)
theorem ZEI {l:List Aq} (h:KN l) {x:Aq} (hx:x∈l):F6 x:=h x hx
theorem ZCR:Dl KZ:=⟨.inl rfl,.inl rfl,Nat.zero_le _,Zg9,fun h=>nomatch h⟩
theorem ZFg:Hr NF:=⟨Js,Js,Js,Js⟩
theorem ZFx:KL Z8L:=⟨Z5B,Z5B,Js⟩
theorem ZFj:CY EO:=⟨Js,kY,Js,Js,Js,by decide⟩
theorem ZFb:MW I7:=⟨Js,kY⟩
theorem ZGs:Cb Df.Ap:=⟨Nat.zero_le _,ZgQ⟩
def Fq:List CE:=[⟨true,true,false,true,false,false,false,false,false,false,false⟩,⟨true,false,true,true,false,false,false,false,false,false,false⟩,⟨true,false,false,false,true,false,false,false,false,false,false⟩,⟨true,false,false,false,false,false,true,true,false,false,false⟩,⟨true,false,false,false,false,false,true,false,false,false,false⟩,⟨true,false,false,false,false,false,false,false,false,false,false⟩,⟨true,false,false,false,false,true,false,false,false,false,false⟩,⟨true,false,false,false,false,false,false,false,true,false,false⟩,⟨true,false,false,false,false,false,false,false,false,true,false⟩,⟨true,false,false,false,true,true,false,false,false,false,false⟩,⟨true,true,false,false,false,false,false,false,false,false,false⟩,⟨true,false,false,false,false,false,false,false,false,false,true⟩,⟨false,false,false,false,false,false,false,false,false,false,false⟩]
def EJ (u:CE):Prop:=u∈Fq
def II (u:CE):Int:=1+cond u.BB 9 0+cond u.Map 5 0+cond u.Ci 2 0+cond (u.Bl||u.Version||u.Length) 1 0+cond u.DL 1 0+cond (u.Bj||u.Bv) 8 0+cond u.Mark 8 0
theorem ZBt {l:List Int} {v:Int} (h:DZ l) (hv:v∈l):CY ⟨AQ v,Be,0,0,0,0,0,0,0,0,0⟩:=by
 obtain⟨q,z⟩:=h v hv;refine⟨Js,kY,Js,Js,Js,?_⟩;show 0<=AQ v;rw[Ce (by omega) (by omega)];exact q
attribute [grind] BR Dl BM Hr KL CY MW Fj Ze EE FB Cb F6
attribute [grind .] CV.upd CV.map CV.term CV.enc CV.ans CV.plain CV.UB CV.Y2 CV.WE CV.UC CV.par CV.len CV.inst CV.unkK CV.unkW CV.rejK CV.rejC CV.verK ZGO ZGQ Zhf Zh1 Zga IP ZFS ZDY ZDg ZDz ZCR ZFg ZFx ZFj ZFb ZGs Js ZGa kY Z5B ZgQ ZBX ZBc ZBz ZAU ZyF ZEv ZCi ZBa ZC7 Zg9 ZCd ZBI
attribute [grind =] ZEj ZBb List.length_take List.length_drop ZB6 ZAz ZDW ZBT ZBP ZAF ZDI ZBM
attribute [grind ->] CV.ct CV.ZFC ZyP ZC9 ZDi ZEh ZBJ ZDF ZCj ZEI
set_option maxHeartbeats 2000000
def Z4F (l:List Int):Prop:=Jm U 5 l=true
theorem ZcH (p:Aq) (h:Z4F p.Payload):pW p p=some true:=(Aa _ _).trans (by
 simp only[Z8M,DN,beq_self_eq_true,cond_true];rw[show Jm U 5 p.Payload=true from h];rfl)
theorem Zt0 (xs:List Aq) (hl:xs.length<4611686018427387904) (h:∀p∈xs,Z4F p.Payload):Z0E xs xs=some true:=(Aa _ _).trans (by
 have step:∀j i:Nat,i+j=xs.length->AU aO (.b1 xs xs i)=some true:=by
  intro j;induction j with
  | zero=>
   intro i q;refine(Aa _ _).trans ?_;simp only[aO,DN];rw[show decide ((i:Int)<(xs.length:Int))=false by simp;omega];rfl
  | succ j z=>
   intro i q;have hx:i<xs.length:=by omega
   refine(Aa _ _).trans ?_;simp only[aO,DN];rw[show decide ((i:Int)<(xs.length:Int))=true by simp;omega,show decide (0<=(i:Int)/\(i:Int)<(xs.length:Int))=true by simp;omega];simp only[cond_true,Int.toNat_natCast,List.getElem?_eq_getElem hx,Option.bind_some,ZcH _ (h _ (List.getElem_mem hx)),Bool.not_true,cond_false];rw[Ce (by omega) (by omega)];exact z (i+1) (by omega)
 simp only[aO,DN,bne_self_eq_false,cond_false];exact step xs.length 0 (by omega))
theorem ZaH (xs:List AO) (hl:xs.length<4611686018427387904):oO xs xs=some true:=(Aa _ _).trans (by
 have step:∀j i:Nat,i+j=xs.length->AU aF (.b1 xs xs i)=some true:=by
  intro j;induction j with
  | zero=>
   intro i q;refine(Aa _ _).trans ?_;simp only[aF,DN];rw[show decide ((i:Int)<(xs.length:Int))=false by simp;omega];rfl
  | succ j z=>
   intro i q;have hx:i<xs.length:=by omega
   refine(Aa _ _).trans ?_;simp only[aF,DN];rw[show decide ((i:Int)<(xs.length:Int))=true by simp;omega,show decide (0<=(i:Int)/\(i:Int)<(xs.length:Int))=true by simp;omega];simp only[cond_true,Int.toNat_natCast,List.getElem?_eq_getElem hx,Option.bind_some,Vm,beq_self_eq_true,Bool.and_true,Bool.not_true,cond_false];rw[Ce (by omega) (by omega)];exact z (i+1) (by omega)
 simp only[aF,DN,bne_self_eq_false,cond_false];exact step xs.length 0 (by omega))
theorem Zyb (p:A7) (q:p.Ah.length<4611686018427387904) (C:p.Ak.length<4611686018427387904):Z17 p p=some true:=(Aa _ _).trans (by
 have step:∀j i:Nat,i+j=p.Ak.length->AU aU (.b2 i p p)=some true:=by
  intro j;induction j with
  | zero=>
   intro i z;refine(Aa _ _).trans ?_;simp only[aU,DN];rw[show decide ((i:Int)<(p.Ak.length:Int))=false by simp;omega];simp only[beq_self_eq_true,cond_true,cond_false]
  | succ j A=>
   intro i z;have hx:i<p.Ak.length:=by omega
   refine(Aa _ _).trans ?_;simp only[aU,DN];rw[show decide ((i:Int)<(p.Ak.length:Int))=true by simp;omega,show decide (0<=(i:Int)/\(i:Int)<(p.Ak.length:Int))=true by simp;omega];simp only[cond_true,Int.toNat_natCast,List.getElem?_eq_getElem hx,Option.bind_some,Vm,beq_self_eq_true,Bool.and_true,Bool.not_true,cond_false];rw[Ce (by omega) (by omega)];exact A (i+1) (by omega)
 simp only[aU,DN,ZaH _ q,Option.bind_some,Bool.not_true,cond_false,bne_self_eq_false];refine(Aa _ _).trans ?_;exact step p.Ak.length 0 (by omega))
structure LWF (l:Ac):Prop where
 tal:l.CX.length<4611686018427387904
 que:l.Ar.Az.length<4611686018427387904
 pay:∀p∈l.Ar.Az,Z4F p.Payload
 wai:l.AA.Ah.length<4611686018427387904
 pen:l.AA.Ak.length<4611686018427387904
 com:l.Ag.length<4611686018427387904
theorem ZAe (l:Ac) (h:LWF l):Z35 l l=some true:=(Aa _ _).trans (by
 have A:AU O5 (.b4 l l)=some true:=(Aa _ _).trans (by
  simp only[O5,DN,Zyb _ h.wai h.pen,ZaH _ h.com,Option.bind_some,beq_self_eq_true,cond_true])
 have z:AU O5 (.b3 l l)=some true:=(Aa _ _).trans (by
  simp only[O5,DN,beq_self_eq_true,Bool.and_true,Bool.not_true,cond_false,A])
 have q:AU O5 (.b2 l l)=some true:=(Aa _ _).trans (by
  simp only[O5,DN,beq_self_eq_true,Bool.and_true,Bool.not_true,cond_false,bne_self_eq_false,z])
 have step:∀j i:Nat,i+j=l.CX.length->AU O5 (.b1 i l l)=some true:=by
  intro j;induction j with
  | zero=>
   intro i C;refine(Aa _ _).trans ?_;simp only[O5,DN];rw[show decide ((i:Int)<(l.CX.length:Int))=false by simp;omega];simp only[beq_self_eq_true,Bool.not_true,cond_false,bne_self_eq_false,Zt0 _ h.que h.pay,Option.bind_some,q]
  | succ j D=>
   intro i C;have hx:i<l.CX.length:=by omega
   have F:=h.tal;refine(Aa _ _).trans ?_;simp only[O5,DN];rw[show decide ((i:Int)<(l.CX.length:Int))=true by simp;omega,show decide (0<=(i:Int)/\(i:Int)<(l.CX.length:Int))=true by simp;omega];simp only[cond_true,Int.toNat_natCast,List.getElem?_eq_getElem hx,Option.bind_some,Vm,beq_self_eq_true,Bool.and_true,Bool.not_true,cond_false];rw[Ce (by omega) (by omega)];exact D (i+1) (by omega)
 simp only[O5,DN,bne_self_eq_false,cond_false];exact step l.CX.length 0 (by omega))
theorem BR.lwf {k:Int} {l:Ac} (h:BR k l) (hk:k<=1000000):LWF l:=by
 obtain⟨z,A,I,J,M,N,O,Q⟩:=h;obtain⟨C,D,F,q,G⟩:=z;obtain⟨b1,b2,b3⟩:=A;refine⟨by omega,by omega,fun p hp=>IX _ ?_,by omega,by omega,by omega⟩;have:=(q p hp).2.2.2.1;omega
theorem Zlc (p0:List Int) (h:p0.length<=1000000):∃r,KT p0=some r/\r.q0=p0:=⟨⟨p0⟩,if_pos ⟨by rw[D6];omega,by rw[maxLen_eq];omega⟩,rfl⟩
theorem Z7a (p0:List AO) (h:p0.length<=1000000):∃r,UF p0=some r/\r.q0=p0:=⟨⟨p0⟩,if_pos ⟨by rw[D6];omega,by rw[maxLen_eq];omega⟩,rfl⟩
theorem Zkh (p0:List BG) (h:p0.length<=1000000):∃r,Ro p0=some r/\r.q0=p0:=⟨⟨p0⟩,if_pos ⟨by rw[D6];omega,by rw[maxLen_eq];omega⟩,rfl⟩
theorem Zkw (p0:List BJ) (h:p0.length<=1000000):∃r,nX p0=some r/\r.q0=p0:=⟨⟨p0⟩,if_pos ⟨by rw[D6];omega,by rw[maxLen_eq];omega⟩,rfl⟩
theorem ZFr {L:Type} {t:Nat} {l:List (U.Ty t)} {i:Int} {k:U.Ty t->Tr U L} {Q:L->Prop} (h:0<=i/\i<(l.length:Int)) (g:∀q:i.toNat<l.length,Tot (k l[i.toNat]) Q):Tot (.bind t (l[Int.toNat i]?) k) Q:=by
 have q:i.toNat<l.length:=by omega
 exact⟨l[i.toNat],List.getElem?_eq_getElem q,g q⟩
theorem wW {L:Type} {l:List Aq} {i:Int} {k:Aq->Tr U L} {Q:L->Prop} (h:0<=i/\i<(l.length:Int)) (g:∀q:i.toNat<l.length,Tot (k l[i.toNat]) Q):Tot (Tr.bind (U:=U) 68 (l[Int.toNat i]? : Option Aq) k) Q:=ZFr (t:=68) h g
theorem take_set {α:Type} {a b:List α} {n:Nat} (A:n<b.length) (hl:a.length=b.length) (h:a.take n=b.take n):(a.set n b[n]).take (n+1)=b.take (n+1):=by
 apply List.ext_getElem?;intro j;rw[List.getElem?_take,List.getElem?_take]
 by_cases z:j<n+1
 ·rw[if_pos z,if_pos z,List.getElem?_set]
  by_cases q:n=j
  ·subst q;rw[if_pos rfl,if_pos (by omega)];exact(List.getElem?_eq_getElem A).symm
  ·rw[if_neg q];have:=congrArg (fun l=>l[j]?) h;simp only[List.getElem?_take]at this;rw[if_pos (by omega),if_pos (by omega)]at this;exact this
 ·rw[if_neg z,if_neg z]
theorem ZuC (k:Int) (q:Ac) (Q:BR k q) (G:0<=k) (h2:k<=1000000):∃r,Z2L q=some r/\(r.q0=⟨q,[]⟩):=by
 have hq:=Q;dsimp only[BR,Dl,BM]at hq;have I:∀p∈q.Ar.Az,p.Payload.length<=1000000:=fun p hp=>by
  have:=(Q.1.2.2.2.1 p hp).2.2.2.1;omega
 refine CW (T:=sQ) (post:=fun r=>r.q0=⟨q,[]⟩) (fun p=>match p with | .b0 A=>A=q | .b1 A F D z C=>C=q/\F=q.Ar.Az/\D=(q.Ar.Az.length:Int)/\A.length=q.Ar.Az.length/\0<=z/\z<=(q.Ar.Az.length:Int)/\A.take z.toNat=q.Ar.Az.take z.toNat)
  (fun p=>match p with | .b0 _=>(1,0,0) | .b1 A F D z C=>(0,(D - z).toNat,0)) ?_ (.b0 q) rfl
 intro p hp;cases p with
 | b0 A=>
  dsimp only at hp;subst hp;simp only[sQ];refine EU (by simp[kL,kA,D6,maxLen_eq]<;>omega) ?_;refine EU (by simp[kL,kA,D6,maxLen_eq]<;>omega) ?_;refine FP ?_;exact⟨⟨rfl,rfl,rfl,by rw[List.length_replicate];omega,by omega,by omega,by simp⟩,ZhQ (by omega)⟩
 | b1 A F D z C=>
  dsimp only at hp;obtain⟨rfl,rfl,rfl,hl,g1,g2,Y⟩:=hp;simp only[sQ];refine GH (fun h=>?_) (fun h=>?_)
  ·simp only[decide_eq_true_eq,decide_eq_false_iff_not]at h;refine EU (by simp[kL,kA,D6,maxLen_eq]<;>omega) ?_;refine wW (by omega) (fun S=>?_);refine BA (Zlc _ (I _ (List.getElem_mem S))) (fun(v:OX) hm hv=>?_);refine EU (by simp[kL,kA,D6,maxLen_eq]<;>omega) ?_;refine EU (by simp[kL,kA,D6,maxLen_eq]<;>omega) ?_;refine EU (by simp[kL,kA,D6,maxLen_eq]<;>omega) ?_;refine wW (by omega) (fun hi' =>?_);refine EU (by simp[kL,kA,D6,maxLen_eq]<;>omega) ?_;refine EU (by simp[kL,kA,D6,maxLen_eq]<;>omega) ?_;refine FP ?_;dsimp only;rw[Ce (by omega) (by omega),hv];refine⟨⟨rfl,rfl,rfl,by rw[List.length_set];exact hl,by omega,by omega,?_⟩,Zi4 (by omega)⟩;rw[show (z+1).toNat=z.toNat+1 by omega];exact take_set S hl Y
  ·simp only[decide_eq_true_eq,decide_eq_false_iff_not]at h;have he:A=C.Ar.Az:=by
    have e1:z.toNat=A.length:=by omega
    have e2:z.toNat=C.Ar.Az.length:=by omega
    have G:=Y;rw[e1,List.take_length]at G;rw[G,hl,List.take_length]
   subst he;refine BA (Z7a _ (by omega)) (fun(v1:Rk) hm1 J=>?_);refine BA (Zkh _ (by omega)) (fun(v2:Rl) hm2 M=>?_);refine BA (Zkw _ (by omega)) (fun(v3:Yu) hm3 N=>?_);refine BA (Z7a _ (by omega)) (fun(v4:Rk) hm4 O=>?_);refine EU (by simp) ?_;refine FP ?_;dsimp only;rw[J,M,N,O]
theorem Zni (p0:List Aq) (J:p0.length<=64) (D:KN p0):∃r,Z0N p0=some r/\r=p0:=by
 refine CW (T:=o9) (post:=fun r=>r=p0) (fun p=>match p with | .b0 z=>z=p0 | .b1 z A q=>z=p0/\0<=q/\q<=(p0.length:Int)/\A=p0.take q.toNat)
  (fun p=>match p with | .b0 _=>(1,0,0) | .b1 z A q=>(0,((z.length:Int) - q).toNat,0)) ?_ (.b0 p0) rfl
 intro p hp;cases p with
 | b0 z=>
  dsimp only at hp;subst hp;simp only[o9];refine EU (by simp[kL,kA,D6,maxLen_eq]<;>omega) ?_;refine FP ?_;exact⟨⟨rfl,by omega,by omega,by simp⟩,ZhQ (by omega)⟩
 | b1 z A q=>
  dsimp only at hp;obtain⟨rfl,G,I,rfl⟩:=hp;simp only[o9];refine GH (fun h=>?_) (fun h=>?_)
  ·simp only[decide_eq_true_eq,decide_eq_false_iff_not]at h;refine EU (by simp[kL,kA,D6,maxLen_eq]<;>omega) ?_;refine wW (by omega) (fun C=>?_);have F:=(D _ (List.getElem_mem C)).2.2.2.1;refine EU (by simp[kL,kA,D6,maxLen_eq]<;>omega) ?_;refine wW (by omega) (fun hi' =>?_);refine EU (by simp[kL,kA,D6,maxLen_eq]<;>omega) ?_;refine EU (by simp[kL,kA,D6,maxLen_eq]<;>omega) ?_;refine EU (by simp) ?_;refine EU (by simp[kL,kA,D6,maxLen_eq]<;>omega) ?_;refine EU (by simp[kL,kA,D6,maxLen_eq]<;>omega) ?_;refine EU (by simp[kL,kA,D6,maxLen_eq]<;>omega) ?_;refine EU (by simp) ?_;refine FP ?_;dsimp only;rw[Ce (by omega) (by omega),List.nil_append];refine⟨⟨rfl,by omega,by omega,?_⟩,Zi4 (by omega)⟩;rw[show (q+1).toNat=q.toNat+1 by omega]
   first|exact List.take_append_getElem C|exact(List.take_append_getElem C).symm|simp
  ·simp only[decide_eq_true_eq,decide_eq_false_iff_not]at h;refine EU (by simp[kL,kA,D6,maxLen_eq]<;>omega) ?_;refine FP ?_;dsimp only;rw[show q.toNat=z.length by omega,List.take_length]
theorem Dy {n:Int} (h : -9223372036854775808<=n) (q : n<=9223372036854775807):AQ n=n:=by
 simp only[AQ,IntKind.wrap,IntKind.signed,IntKind.bits];simp;omega
theorem Su (i:Nat) (h:i<4611686018427387904):AQ ((i:Int)+1)=((i+1:Nat):Int):=by
 rw[Dy (by omega) (by omega)];simp
theorem wu64 {n:Int} (h:0<=n) (q : n<18446744073709551616):IntKind.wrap .u64 n=n:=by rw[IntKind.wrap_u64];exact Int.emod_eq_of_lt h q
theorem KI {n:Int} (h:0<=n) (q : n<4294967296):IntKind.wrap .u32 n=n:=by rw[IntKind.wrap_u32];exact Int.emod_eq_of_lt h q
theorem wu16 {n:Int} (h:0<=n) (q : n<65536):IntKind.wrap .u16 n=n:=by rw[IntKind.wrap_u16];exact Int.emod_eq_of_lt h q
theorem Tz {n:Int} (h:0<=n) (q : n<256):IntKind.wrap .u8 n=n:=by rw[IntKind.wrap_u8];exact Int.emod_eq_of_lt h q
theorem Zi (n:Int):0<=IntKind.wrap .u64 n/\IntKind.wrap .u64 n<18446744073709551616:=by rw[IntKind.wrap_u64];omega
theorem r32 (n:Int):0<=IntKind.wrap .u32 n/\IntKind.wrap .u32 n<4294967296:=by rw[IntKind.wrap_u32];omega
theorem r8 (n:Int):0<=IntKind.wrap .u8 n/\IntKind.wrap .u8 n<256:=by rw[IntKind.wrap_u8];omega
theorem b64 (o:BinOp) (a b:Int):0<=bits o .u64 a b/\bits o .u64 a b<18446744073709551616:=Zi _
theorem b32 (o:BinOp) (a b:Int):0<=bits o .u32 a b/\bits o .u32 a b<4294967296:=r32 _
theorem b8 (o:BinOp) (a b:Int):0<=bits o .u8 a b/\bits o .u8 a b<256:=r8 _
theorem wraps_u64 (n:Int) (q:0<=n) (z:n<2 ^ 64):IntKind.u64.wrap n=n:=wu64 q z
theorem wraps_u32 (n:Int) (q:0<=n) (z:n<2 ^ 32):IntKind.u32.wrap n=n:=KI q z
theorem Z5w (k:IntKind) (j:Nat) (D:j<=k.bits) (hk:∀n:Int,0<=n->n<2 ^ j->k.wrap n=n) (i:Nat) (F:i<=j)
  (x y:Int) (C:0<=y) (G:y % 2 ^ i=0) (z:y<2 ^ j) (A:0<=x) (hx:x<2 ^ i):bits .or k x y=x+y:=by
 have q:x<2 ^ j:=Int.lt_of_lt_of_le hx (by exact_mod_cast Nat.pow_le_pow_right (by decide) F);have h:=bits_join k j D hk i y x C G z A hx q;obtain⟨a,rfl⟩:=Int.eq_ofNat_of_zero_le A;obtain⟨b,rfl⟩:=Int.eq_ofNat_of_zero_le C;rw[(bits_nat k j D hk b a (by exact_mod_cast z) (by exact_mod_cast q)).2]at h;rw[(bits_nat k j D hk a b (by exact_mod_cast q) (by exact_mod_cast z)).2,Nat.or_comm,h,Int.add_comm]
theorem ZFI {i n:Nat} (h:i<n):decide (i<n)=true:=decide_eq_true h
theorem ZCV {i n:Nat} (h:n<=i):decide (i<n)=false:=decide_eq_false (by omega)
theorem VO:1000000000<=lim:=by decide
theorem Uy:1000000000<=maxLen:=by decide
theorem Zhl (a b k:Nat) (h:a+b<=1000000) (hk:k<=1000):(decide ((a+b)*k<=lim)&&decide (a+b<=maxLen))=true:=by
 have q:(a+b)*k<=1000000000:=Nat.le_trans (Nat.mul_le_mul h hk) (by decide);exact Bool.and_eq_true_iff.mpr ⟨decide_eq_true (Nat.le_trans q VO),decide_eq_true (Nat.le_trans (Nat.le_trans h (by decide)) Uy)⟩
theorem ZEM (a k:Nat) (h:a<=1000000) (hk:k<=1000):(decide (a*k<=lim)&&decide (a<=maxLen))=true:=by
 simpa using Zhl 0 a k (by simpa using h) hk
theorem SL:(∀n:Nat,(0:Int)<=(n:Int))/\(∀n m:Nat,((n:Int)<(m:Int))↔n<m)/\(∀n:Nat,Int.toNat (n:Int)=n) /\
  (∀(α:Type) (l:List α) (i:Nat) (h:i<l.length),l[i]? = some l[i])/\(∀(α:Type) [BEq α] [ReflBEq α] (a:α),(a==a)=true) /\
  (∀a:Bool,(a&&true)=a)/\(∀a:Bool,(true&&a)=a)/\(∀(α:Type) (a b:List α),(a++b).length=a.length+b.length)/\(∀(α:Type) (a:List α),[]++a=a)/\(∀n:Nat,0+n=n) /\
  (∀a b k:Nat,a+b<=1000000->k<=1000->(decide ((a+b)*k<=lim)&&decide (a+b<=maxLen))=true)/\(∀a k:Nat,a<=1000000->k<=1000->(decide (a*k<=lim)&&decide (a<=maxLen))=true) /\
  (∀i:Nat,i<4611686018427387904->AQ ((i:Int)+1)=((i+1:Nat):Int))/\(∀i n:Nat,i<n->decide (i<n)=true)/\(∀i n:Nat,n<=i->decide (i<n)=false):=
 ⟨Int.natCast_nonneg,@Int.ofNat_lt,Int.toNat_natCast,fun _ _ _ h=>List.getElem?_eq_getElem h,fun _ _ _ a=>beq_self_eq_true a,Bool.and_true,Bool.true_and,fun _ _ _=>List.length_append,fun _ a=>List.nil_append a,Nat.zero_add,Zhl,ZEM,Su,fun _ _ h=>ZFI h,fun _ _ h=>ZCV h⟩
theorem SM:(∀(α q:Type) (a:α) (f:α->Option q),(some a).bind f=f a)/\(decide True=true)/\(decide False=false)/\(∀(α:Type) (a b:α),cond true a b=a)/\(∀(α:Type) (a b:α),cond false a b=b) /\
  (∀p:Prop,(True/\p)=p)/\(∀p:Prop,(p/\True)=p)/\(∀α:Type,([]:List α).length=0)/\(∀(α:Type) (a:α) (l:List α),(a::l).length=l.length+1)/\((!true)=false)/\((!false)=true):=
 ⟨fun _ _ _ _=>rfl,rfl,rfl,fun _ _ _=>rfl,fun _ _ _=>rfl,true_and,and_true,fun _=>rfl,fun _ _ _=>rfl,rfl,rfl⟩
theorem wG {S R α:Type} (F:S->Int->Option R) (xs:List α) (step:S->α->S) (q:S->Option R) (Inv:Nat->S->Prop)
  (A:∀(i:Nat) s (h:i<xs.length),Inv i s->F s i=F (step s xs[i]) ((i+1:Nat):Int)/\Inv (i+1) (step s xs[i]))
  (D:∀s,Inv xs.length s->F s (xs.length:Int)=q s) (s:S) (M:Inv 0 s):F s 0=q (xs.foldl step s)/\Inv xs.length (xs.foldl step s):=by
 have key:∀(ys C:List α) (s:S),xs=ys++C->Inv ys.length s->F s (ys.length:Int)=q (C.foldl step s)/\Inv xs.length (C.foldl step s):=by
  intro ys C;induction C generalizing ys with
  | nil=>
   intro s hx G;rw[List.append_nil]at hx;subst hx;exact⟨D s G,G⟩
  | cons z C N=>
   intro s hx G;have hl:ys.length<xs.length:=by rw[hx];simp
   have hz:xs[ys.length]=z:=by simp[hx]
   obtain⟨I,J⟩:=A ys.length s hl G;rw[hz]at I J;rw[I];have:=N (ys++[z]) (step s z) (by simp[hx]) (by simpa using J);simpa using this
 exact key [] xs s rfl M
theorem ZAD {α q:Type} (f:α->List q) (xs:List α) (s:List q):xs.foldl (fun s x=>s++f x) s=s++xs.flatMap f:=by
 induction xs generalizing s with
 | nil=>simp
 | cons x xs z=>simp[List.foldl_cons,z,List.append_assoc]
def Bytes (xs:List Int):Prop:=∀x∈xs,0<=x/\x<256
theorem Bytes.nil:Bytes []:=fun _ h=>by cases h
theorem Bytes.cons {x:Int} {xs:List Int} (h:0<=x/\x<256) (hx:Bytes xs):Bytes (x::xs):=fun y hy=>by
 rcases List.mem_cons.1 hy with rfl|hy
 ·exact h
 ·exact hx y hy
theorem Bytes.app {xs ys:List Int} (hx:Bytes xs) (q:Bytes ys):Bytes (xs++ys):=fun y h=>(List.mem_append.1 h).elim (hx y) (q y)
theorem Bytes.sub {xs ys:List Int} (hx:Bytes xs) (h:∀y∈ys,y∈xs):Bytes ys:=fun y q=>hx y (h y q)
theorem Bytes.take {xs:List Int} (hx:Bytes xs) (n:Nat):Bytes (xs.take n):=hx.sub fun _ h=>List.mem_of_mem_take h
theorem Bytes.drop {xs:List Int} (hx:Bytes xs) (n:Nat):Bytes (xs.drop n):=hx.sub fun _ h=>List.mem_of_mem_drop h
theorem Bytes.get {xs:List Int} (hx:Bytes xs) (i:Nat) (h:i<xs.length):0<=xs[i]/\xs[i]<256:=hx _ (List.getElem_mem h)
theorem Bytes.flat {α:Type} (f:α->List Int) (l:List α) (h:∀x∈l,Bytes (f x)):Bytes (l.flatMap f):=fun y q=>by
 obtain⟨x,hx,q⟩:=List.mem_flatMap.1 q;exact h x hx y q
def val:List Int->Int
 | []=>0
 | b::r=>b+256*val r
theorem yZ {xs:List Int} (h:Bytes xs):0<=val xs/\val xs<256 ^ xs.length:=by
 induction xs with
 | nil=>simp[val]
 | cons x xs z=>
  have A:=z fun y q=>h y (List.mem_cons_of_mem _ q);have C:=h x List.mem_cons_self;simp only[val,List.length_cons];rw[Int.pow_succ];omega
theorem val_append (xs:List Int) (ys:List Int):val (xs++ys)=val xs+256 ^ xs.length*val ys:=by
 induction xs with
 | nil=>simp[val]
 | cons x xs q=>
  simp only[List.cons_append,val,q,List.length_cons];rw[Int.pow_succ,Int.mul_add,<- Int.mul_assoc,Int.mul_comm 256 (256 ^ xs.length),Int.add_assoc]
theorem ZzW {n:Nat} (h:n<=8):(256:Int) ^ n<=18446744073709551616:=
 (by decide:∀n:Fin 9,(256:Int) ^ n.1<=18446744073709551616) ⟨n,by omega⟩
theorem YJ {xs:List Int} (h:Bytes xs) (hl:xs.length<=8):0<=val xs/\val xs<18446744073709551616:=by
 have q:=yZ h;exact⟨q.1,Int.lt_of_lt_of_le q.2 (ZzW hl)⟩
def num:Nat->Int->List Int
 | 0,_=>[]
 | n+1,v=>(v % 256)::num n (v / 256)
theorem EL (n:Nat) (v:Int):(num n v).length=n:=by
 induction n generalizing v with
 | zero=>rfl
 | succ n q=>simp[num,q]
theorem JQ (n:Nat) (v:Int):Bytes (num n v):=by
 induction n generalizing v with
 | zero=>exact Bytes.nil
 | succ n q=>exact Bytes.cons (by omega) (q _)
theorem Z4n (n:Nat) (v:Int):num (n+1) v=num n v++[v / 256 ^ n % 256]:=by
 induction n generalizing v with
 | zero=>simp[num]
 | succ n q=>
  have e:num (n+2) v=(v % 256)::num (n+1) (v / 256):=rfl;rw[e,q];simp only[num,List.cons_append];rw[Int.pow_succ,Int.mul_comm,<- Int.ediv_ediv_of_nonneg (by decide)]
theorem ZBy (n m:Nat) (v:Int) (h:n<=m):(num m v).take n=num n v:=by
 induction n generalizing m v with
 | zero=>simp[num]
 | succ n q=>
  obtain⟨m,rfl⟩:∃k,m=k+1:=⟨m - 1,by omega⟩;simp[num,q m _ (by omega)]
theorem ZDa (n:Nat) (v:Int) (z:0<=v) (h:v<256 ^ n):val (num n v)=v:=by
 induction n generalizing v with
 | zero=>simp[num,val]at *;omega
 | succ n q=>
  simp only[num,val];rw[Int.pow_succ]at h;rw[q (v / 256) (by omega) (Int.ediv_lt_of_lt_mul (by decide) h)];omega
theorem via {α:Type} {a b:α} (m:α) (q:a=m) (z:b=m):a=b:=q.trans z.symm
theorem and32 (x:Int) (h:0<=x) (q : x<18446744073709551616):bits .and .u64 x (IntKind.wrap .u64 ((IntKind.wrap .u64 ((1:Int)*2 ^ (min (Int.toNat 32) (IntKind.bits .u64)))) - (1:Int)))=x % 4294967296:=by
 have:=bits_mask .u64 64 (by decide) wraps_u64 32 (by decide) x h q;exact this
theorem Z9I (x:Int) (h:0<=x) (q : x<18446744073709551616):SH x 32=some (x % 4294967296):=(Aa _ _).trans (by
 simp only[Z2a,DN];rw[show decide ((32:Int)<=0)=false from rfl,show decide ((32:Int)>=64)=false from rfl,show decide ((0:Int)<=32)=true from rfl];simp only[cond_false,cond_true];rw[and32 x h q])
theorem or0 (x:Int) (h:0<=x) (q : x<18446744073709551616):bits .or .u64 x 0=x:=by
 obtain⟨a,rfl⟩:=Int.eq_ofNat_of_zero_le h;have:=(bits_nat .u64 64 (by decide) wraps_u64 a 0 (show a<18446744073709551616 by omega) (by decide)).2;rw[Nat.or_zero]at this;exact this
def rotl (k:Int) (p q:Nat):Int:=bits .or .u64 (IntKind.wrap .u64 (k*2 ^ p)) (Int.fdiv k (2 ^ q))
theorem rotl0 (k:Int) (h:0<=k) (q : k<18446744073709551616):rotl k 0 64=k:=by
 unfold rotl;rw[Int.pow_zero,Int.mul_one,wu64 h q,Int.fdiv_eq_ediv_of_nonneg _ (by decide),show (2:Int) ^ 64=18446744073709551616 from rfl,Int.ediv_eq_zero_of_lt h q,or0 k h q]
theorem ZF9 (k:Int) (h:0<=k) (D : k<18446744073709551616) (i:Int) (N:0<=i) (O:i<8) :
  ∃lo,(0<=lo/\lo<4294967296)/\Xb k i=some lo/\∃x,WH k (Int.tmod (AQ ((11:Int)*(Int.tmod i (64:Int)))) (64:Int))=some x/\∃y,SH x 32=some y/\IntKind.wrap .u32 y=lo:=by
 have key:∀x,0<=x->x<18446744073709551616->AU iW (.b1 x)=some (x % 4294967296):=fun x hx A =>(Aa _ _).trans (by
  simp only[iW,DN];rw[Int.tmod_eq_emod_of_nonneg hx,KI (by omega) (by omega)])
 have J:i=0\/i=1\/i=2\/i=3\/i=4\/i=5\/i=6\/i=7:=by omega
 have low:∀x,0<=x->x<18446744073709551616->∃y,SH x 32=some y/\IntKind.wrap .u32 y=x % 4294967296:=fun x hx A =>⟨_,Z9I x hx A,KI (by omega) (by omega)⟩;have z:∀p q:Nat,∀n:Int,WH k n=some (rotl k p q)->Xb k i=AU iW (.b1 (rotl k p q))->Int.tmod (AQ ((11:Int)*(Int.tmod i (64:Int)))) (64:Int)=n ->
   ∃lo,(0<=lo/\lo<4294967296)/\Xb k i=some lo/\∃x,WH k (Int.tmod (AQ ((11:Int)*(Int.tmod i (64:Int)))) (64:Int))=some x/\∃y,SH x 32=some y/\IntKind.wrap .u32 y=lo:=fun p q n F G I=>by
  have hb:0<=rotl k p q/\rotl k p q<18446744073709551616:=b64 _ _ _;obtain⟨y,M,C⟩:=low _ hb.1 hb.2;exact⟨rotl k p q % 4294967296,by omega,by rw[G,key _ hb.1 hb.2],_,by rw[I];exact F,y,M,C⟩
 rcases J with rfl|rfl|rfl|rfl|rfl|rfl|rfl|rfl
 ·refine z 0 64 0 ((Aa _ _).trans rfl) ?_ rfl;rw[rotl0 k h D];exact(Aa _ _).trans rfl
 ·exact z 11 53 11 ((Aa _ _).trans rfl) ((Aa _ _).trans rfl) rfl
 ·exact z 22 42 22 ((Aa _ _).trans rfl) ((Aa _ _).trans rfl) rfl
 ·exact z 33 31 33 ((Aa _ _).trans rfl) ((Aa _ _).trans rfl) rfl
 ·exact z 44 20 44 ((Aa _ _).trans rfl) ((Aa _ _).trans rfl) rfl
 ·exact z 55 9 55 ((Aa _ _).trans rfl) ((Aa _ _).trans rfl) rfl
 ·exact z 2 62 2 ((Aa _ _).trans rfl) ((Aa _ _).trans rfl) rfl
 ·exact z 13 51 13 ((Aa _ _).trans rfl) ((Aa _ _).trans rfl) rfl
theorem turn7 (x:Int):RY x 7=PL x 7:=by
 rw[show RY x 7=_ from Aa _ _,show PL x 7=_ from Aa _ _];rfl
theorem ZGq (x:Int):RY x 16=PL x 16:=by
 rw[show RY x 16=_ from Aa _ _,show PL x 16=_ from Aa _ _];rfl
theorem ZCM (k:Int) (h:0<=k) (z : k<18446744073709551616) (i:Int) (A:0<=i) (I:i<8) (a:Int):sW k i a=bI k i a:=by
 obtain⟨q,J,C,x,D,y,F,G⟩:=ZF9 k h z i A I;refine via ((PL (IntKind.wrap .u32 (a+q)) 7).bind fun M=>(PL q 16).bind fun N=>some (bits .xor .u32 (IntKind.wrap .u32 (M*(2654435761:Int))) N)) ((Aa _ _).trans ?_) ((Aa _ _).trans ?_)
 ·simp only[Z2n,DN,C,Option.bind_some];rfl
 ·simp only[Z1H,DN,D,F,G,Option.bind_some,turn7,ZGq];rfl
theorem ZFm (k:Int) (h:0<=k) (F : k<18446744073709551616):∀(n:Nat) (i l r:Int),0<=i->8 - i<=n->0<=l->l<4294967296->0<=r->r<4294967296->AU VE (.b1 k l r i)=AU JE (.b1 k i ⟨l,r⟩):=by
 have C:∀i l r:Int,¬i<8->0<=l->l<4294967296->0<=r->r<4294967296->AU VE (.b1 k l r i)=AU JE (.b1 k i ⟨l,r⟩):=fun i l r A hl z hr q =>by
  refine via (some (l*4294967296+r)) ((Aa _ _).trans ?_) ((Aa _ _).trans ?_)
  ·simp only[VE,DN];rw[decide_eq_false A,wu64 (n:=l) (by omega) (by omega),wu64 (n:=r) (by omega) (by omega),wu64 (n:=l*4294967296) (by omega) (by omega),wu64 (by omega) (by omega)];rfl
  ·simp only[JE,DN];rw[decide_eq_false A];simp only[cond_false];rw[show Yx ⟨l,r⟩=some (l*4294967296+r) from(Aa _ _).trans (by
    simp only[nZ,DN];rw[wu64 (n:=l) (by omega) (by omega),wu64 (n:=r) (by omega) (by omega),show (2:Int) ^ (32:Nat)=4294967296 from rfl,wu64 (n:=l*4294967296) (by omega) (by omega)];rw[bits_join .u64 64 (by decide) wraps_u64 32 (l*4294967296) r (by omega) (by omega) (by omega) hr (by omega) (by omega)])]
   rfl
 intro n;induction n with
 | zero=>intro i l r D G hl z hr q;exact C i l r (by omega) hl z hr q
 | succ n I=>
  intro i l r D G hl z hr q
  by_cases A:i<8
  ·refine via ((bI k i r).bind fun x=>AU JE (.b1 k (AQ (i+1)) ⟨r,bits .xor .u32 l x⟩)) ((Aa _ _).trans ?_) ((Aa _ _).trans ?_)
   ·simp only[VE,DN];rw[decide_eq_true A,ZCM k h F i D A];simp only[cond_true];congr 1;funext x;have hx:=b32 .xor l x;rw[Dy (by omega) (by omega)];exact I (i+1) r (bits .xor .u32 l x) (by omega) (by omega) hr q hx.1 hx.2
   ·simp only[JE,DN];rw[decide_eq_true A];rfl
  ·exact C i l r A hl z hr q
theorem e_Mix (k x:Int) (h:0<=k) (z : k<18446744073709551616) (hx:0<=x) (q : x<18446744073709551616):S9 k x=L8 k x:=by
 refine via (AU JE (.b1 k 0 ⟨x / 4294967296,x % 4294967296⟩)) ((Aa _ _).trans ?_) ((Aa _ _).trans ?_)
 ·simp only[VE,DN];rw[Int.tdiv_eq_ediv_of_nonneg hx,Int.tmod_eq_emod_of_nonneg hx,wu64 (n:=x / 4294967296) (by omega) (by omega),KI (n:=x / 4294967296) (by omega) (by omega),KI (n:=x % 4294967296) (by omega) (by omega)];exact ZFm k h z 8 0 _ _ (by omega) (by omega) (by omega) (by omega) (by omega) (by omega)
 ·simp only[JE,DN];rw[show rD x=some ⟨x / 4294967296,x % 4294967296⟩ from(Aa _ _).trans (by
   simp only[Z1N,DN,Z9I x hx q,Option.bind_some];rw[Int.fdiv_eq_ediv_of_nonneg _ (by decide),show (2:Int) ^ (32:Nat)=4294967296 from rfl,KI (n:=x / 4294967296) (by omega) (by omega),KI (n:=x % 4294967296) (by omega) (by omega)])]
  rfl
noncomputable def OO (k x:Int):Int:=(L8 k x).getD 0
theorem YT (k x:Int):L8 k x=some (OO k x):=by
 obtain⟨r,hr⟩:=ZhX k x;rw[OO,hr];rfl
theorem ZBN (k:Int):∀(n:Nat) (i:Int) (h:Je) (r:Int),0<=i->8 - i<=n->AU JE (.b1 k i h)=some r->0<=r/\r<18446744073709551616:=by
 have q:∀(i:Int) (h:Je) (r:Int),¬i<8->AU JE (.b1 k i h)=some r->0<=r/\r<18446744073709551616:=fun i h r z hr=>by
  rw[Aa]at hr;simp only[JE,DN]at hr;rw[decide_eq_false z,show Yx h=_ from Aa _ _]at hr;simp only[nZ,DN,cond_false,Option.bind_some,Option.some.injEq]at hr;rw[<- hr];exact b64 _ _ _
 intro n;induction n with
 | zero=>intro i h r A C hr;exact q i h r (by omega) hr
 | succ n D=>
  intro i h r A C hr
  by_cases z:i<8
  ·rw[Aa]at hr;simp only[JE,DN]at hr;rw[decide_eq_true z,Dy (by omega) (by omega)]at hr;simp only[cond_true]at hr;obtain⟨x,_,hx⟩:=Option.bind_eq_some_iff.1 hr;exact D _ _ _ (by omega) (by omega) hx
  ·exact q i h r z hr
theorem xM (k x:Int):0<=OO k x/\OO k x<18446744073709551616:=by
 have h:=YT k x;rw[show L8 k x=_ from Aa _ _]at h;simp only[JE,DN]at h;obtain⟨y,_,q⟩:=Option.bind_eq_some_iff.1 h;exact ZBN k 8 0 y _ (by omega) (by omega) q
def E5 (k:Int):Prop:=0<=k/\k<18446744073709551616
theorem wC (k x:Int) (h:E5 k) (hx:E5 x):S9 k x=some (OO k x):=(e_Mix k x h.1 h.2 hx.1 hx.2).trans (YT k x)
theorem wQ {R α C:Type} (F:List C->Int->Option R) (xs:List α) (f:α->List C) (q:List C->Option R) (B:Nat)
  (z:∀(i:Nat) s (h:i<xs.length),s.length+(f xs[i]).length<=B->F s i=F (s++f xs[i]) ((i+1:Nat):Int))
  (A:∀s,F s (xs.length:Int)=q s) (s:List C) (D:s.length+(xs.flatMap f).length<=B):F s 0=q (s++xs.flatMap f):=by
 have key:=wG F xs (fun s x=>s++f x) q (fun i s=>s.length+((xs.drop i).flatMap f).length<=B)
  (fun i s h G=>by
   simp only[List.drop_eq_getElem_cons h,List.flatMap_cons,List.length_append]at G;exact⟨z i s h (by omega),by simp only[List.length_append];omega⟩)
  (fun s _=>A s) s (by simpa using D)
 rw[key.1,ZAD]
theorem kX (ls:List (List Int)) (h:ls.flatten.length<=100000) (hl:ls.length<=100000):Ue ls=some ls.flatten:=(Aa _ _).trans (by
 simp only[bU,DN,SL,SM];have:=wQ (fun s i=>AU bU (.b1 s ls ls.length i)) ls id some 100000 (fun i s q hs=>(Aa _ _).trans (by
   simp only[id]at hs;simp(disch:=omega) only[bU,q,id,DN,SL,SM]))
  (fun s=>(Aa _ _).trans (by simp only[bU,Int.lt_irrefl,DN,SL,SM])) [] (by simpa[List.flatMap_id]using h)
 simpa[List.flatMap_id]using this)
theorem Zgd (n:Int) (h:1<=n) (q : n<=8):qL n=some true:=(Aa _ _).trans (by
 simp only[Z9G,DN,decide_eq_true (show n>=1 from h),decide_eq_true q,cond_true])
theorem Vk (j:Nat):(2:Int) ^ (8*j)=256 ^ j:=by rw[Int.pow_mul];rfl
theorem sh8 (v:Int) (j:Nat) (q:j<=8):Int.fdiv v (2 ^ (min (Int.toNat (AQ ((8:Int)*(j:Int)))) (IntKind.bits .u64)))=v / 256 ^ j:=by
 rw[Dy (by omega) (by omega),show Int.toNat (8*(j:Int))=8*j by omega,show min (8*j) (IntKind.bits .u64)=8*j from Nat.min_eq_left (by show 8*j<=64;omega),Vk,Int.fdiv_eq_ediv_of_nonneg _ (Int.le_of_lt (by exact_mod_cast Nat.pow_pos (by decide)))]
theorem put3 (fs:List Es) (s:List Int) (n:Int) (i m:Nat) (x:Es) (hm:m<=8) (hs:s.length<=1000) (D:i<=1000):∀(d j:Nat),j+d=m ->
  AU NH (.b3 (s++num j x.Value) fs n i m j x)=AU NH (.b1 (s++num m x.Value) fs n ((i+1:Nat):Int)):=by
 intro d;induction d with
 | zero=>
  intro j A;obtain rfl:j=m:=by omega
  refine(Aa _ _).trans ?_;simp(disch:=omega) only[NH,Int.lt_irrefl,DN,SL,SM]
 | succ d C=>
  intro j A;rw[<- C (j+1) (by omega),Z4n,<- List.append_assoc];refine(Aa _ _).trans ?_;have q:j<m:=by omega
  have z:decide (0<=AQ (8*(j:Int)))=true:=decide_eq_true (by rw[Dy (by omega) (by omega)];omega);have hl:=EL j x.Value;simp(disch:=omega) only[NH,q,z,sh8,IntKind.wrap_u8,hl,DN,SL,SM]
def VS (f:Es):List Int:=num f.Size.toNat f.Value
theorem ZhR (fs:List Es) (hf:∀f∈fs,1<=f.Size/\f.Size<=8/\0<=f.Value/\f.Value<256 ^ f.Size.toNat) (hl:(fs.flatMap VS).length<=1000) (F:fs.length<=1000) :
  dC fs=some (fs.flatMap VS,0):=(Aa _ _).trans (by
 simp only[NH,DN,SL,SM];have:=wQ (fun s i=>AU NH (.b1 s fs fs.length i)) fs VS (fun s=>some (s,0)) 1000 (fun i s z hs=>(Aa _ _).trans (by
   obtain⟨C,D,A,hv⟩:=hf fs[i] (List.getElem_mem z);simp(disch:=omega) only[NH,z,Zgd _ C D,DN,SL,SM];have key:AU NH (.b2 s fs fs.length i fs[i])=AU NH (.b1 (s++VS fs[i]) fs fs.length ((i+1:Nat):Int)):=by
    refine(Aa _ _).trans ?_;simp(disch:=omega) only[NH,DN,SL,SM];have:=put3 fs s fs.length i fs[i].Size.toNat fs[i] (by omega) (by omega) (by omega) fs[i].Size.toNat 0 (by omega);simp only[num,List.append_nil]at this;rw[show ((fs[i].Size.toNat:Nat):Int)=fs[i].Size by omega]at this;exact this
   by_cases q:fs[i].Size<8
   ·have e:=sh8 fs[i].Value fs[i].Size.toNat (by omega);rw[show ((fs[i].Size.toNat:Nat):Int)=fs[i].Size by omega,Int.ediv_eq_zero_of_lt A hv]at e;rw[e,decide_eq_true q,show decide (0<=AQ (8*fs[i].Size))=true from decide_eq_true (by rw[Dy (by omega) (by omega)];omega)];exact key
   ·rw[decide_eq_false q];exact key))
  (fun s=>(Aa _ _).trans (by simp only[NH,Int.lt_irrefl,DN,SL,SM])) [] (by simpa using hl)
 simpa using this)
theorem Z2C {α:Type} (f:α->List Int) (c:Nat) (xs:List α) (h:∀x∈xs,(f x).length=c):(xs.flatMap f).length=c*xs.length:=by
 induction xs with
 | nil=>simp
 | cons x xs z=>
  rw[List.flatMap_cons,List.length_append,h x List.mem_cons_self,z fun y q=>h y (List.mem_cons_of_mem _ q),List.length_cons,Nat.mul_succ];omega
theorem Zgo (xs:List Int) (hx:∀x∈xs,E5 x) (hl:xs.length<=100):Um xs=some (xs.flatMap (num 8)):=(Aa _ _).trans (by
 simp only[fK,DN,SL,SM];have:=wQ (fun s i=>AU fK (.b1 s xs xs.length i)) xs (fun x=>[(⟨8,x⟩:Es)]) (fun s=>(dC s).bind fun r=>some r.1) 1000 (fun i s z hs=>(Aa _ _).trans (by
   simp only[List.length_cons,List.length_nil]at hs;simp(disch:=omega) only[fK,z,DN,SL,SM]))
  (fun s=>(Aa _ _).trans (by simp only[fK,Int.lt_irrefl,DN,SL,SM];rfl)) [] (by
   rw[show (xs.flatMap fun x=>[(⟨8,x⟩:Es)])=xs.map fun x=>(⟨8,x⟩:Es) from(List.map_eq_flatMap).symm];simp;omega)
 refine this.trans ?_;rw[List.nil_append,show (xs.flatMap fun x=>[(⟨8,x⟩:Es)])=xs.map fun x=>(⟨8,x⟩:Es) from(List.map_eq_flatMap).symm];have e:(xs.map fun x=>(⟨8,x⟩:Es)).flatMap VS=xs.flatMap (num 8):=by rw[List.flatMap_map];rfl
 rw[ZhR _ (fun f hf=>by
  obtain⟨x,q,rfl⟩:=List.mem_map.1 hf;exact⟨show (1:Int)<=8 by decide,show (8:Int)<=8 by decide,(hx x q).1,(hx x q).2⟩) (by rw[e,Z2C _ 8 _ fun x _=>EL 8 x];omega) (by simp;omega),e]
 rfl)
theorem ZFw (m:Nat) (hm:m<=100) (v:Int) (h:E5 v):∀(d j:Nat),j+d=m->AU Xh (.b1 m (v / 256 ^ j) (num j v) j)=some ⟨num m v⟩:=by
 intro d;induction d with
 | zero=>
  intro j A;obtain rfl:j=m:=by omega
  refine(Aa _ _).trans ?_;simp(disch:=omega) only[Xh,Int.lt_irrefl,DN,SL,SM]
 | succ d C=>
  intro j A;have p:(0:Int)<256 ^ j:=by exact_mod_cast Nat.pow_pos (by decide)
  have q:0<=v / 256 ^ j:=Int.ediv_nonneg h.1 (Int.le_of_lt p);have D : v / 256 ^ j<18446744073709551616:=Int.lt_of_le_of_lt (Int.ediv_le_self _ h.1) h.2;have z:j<m:=by omega
  have hl:=EL j v;rw[<- C (j+1) (by omega),Z4n];refine(Aa _ _).trans ?_;simp(disch:=omega) only[Xh,z,hl,Int.tmod_eq_emod_of_nonneg q,Int.tdiv_eq_ediv_of_nonneg q,DN,SL,SM];rw[Tz (by omega) (by omega),wu64 (by omega) (by omega),Int.ediv_ediv_of_nonneg (by omega),Int.pow_succ]
theorem lI (m:Nat) (hm:m<=100) (v:Int) (h:E5 v):MG m v=some ⟨num m v⟩:=(Aa _ _).trans (by
 simp only[Xh,DN,SL,SM];have:=ZFw m hm v h m 0 (by omega);simpa[num]using this)
theorem ZBA (xs:List Int) (hb:Bytes xs) (hl:xs.length<=8):∀n:Nat,n<=xs.length->AU XX (.b1 xs (val (xs.drop n)) ((n:Int) - 1))=some (val xs):=by
 intro n;induction n with
 | zero=>
  intro _;refine(Aa _ _).trans ?_;simp only[XX,DN];rw[show decide (((0:Nat):Int) - 1>=0)=false from rfl];simp
 | succ n q=>
  intro F;have D:val (xs.drop n)=xs[n]+256*val (xs.drop (n+1)):=by rw[List.drop_eq_getElem_cons (show n<xs.length by omega)];rfl
  have z:=YJ (hb.drop n) (by rw[List.length_drop];omega);have A:=YJ (hb.drop (n+1)) (by rw[List.length_drop];omega);have C:=hb.get n (by omega);refine(Aa _ _).trans ?_;simp only[XX,DN];rw[show ((n+1:Nat):Int) - 1=(n:Int) by omega,show decide ((n:Int)>=0)=true from decide_eq_true (by omega),show decide (0<=(n:Int)/\(n:Int)<(xs.length:Int))=true from decide_eq_true (by omega)];simp only[cond_true,Int.toNat_natCast,List.getElem?_eq_getElem (show n<xs.length by omega),Option.bind_some];rw[wu64 (n:=val (xs.drop (n+1))*256) (by omega) (by omega),wu64 (n:=xs[n]) (by omega) (by omega),wu64 (by omega) (by omega),Dy (by omega) (by omega),show val (xs.drop (n+1))*256+xs[n]=val (xs.drop n) by omega];exact q (by omega)
theorem ZDy (xs:List Int) (hb:Bytes xs) (hl:xs.length<=8):uG xs=some (val xs):=(Aa _ _).trans (by
 simp only[XX,DN];have:=ZBA xs hb hl xs.length (Nat.le_refl _);rw[List.drop_of_length_le (Nat.le_refl _)]at this;rw[Dy (by omega) (by omega)];exact this)
def zV (xs:List Int) (g:Nat):Int:=val ((xs.drop (8*g)).take 8)
theorem ZBR (ys:List Int) (hb:Bytes ys) (hl:ys.length<=8):∀m:Nat,m<=ys.length->KH ys m=val (ys.take m):=by
 intro m;induction m with
 | zero=>intro _;simp[KH,val]
 | succ m A=>
  intro hm;have hx:=hb.get m (by omega);have hv:=yZ (hb.take m);have z:=YJ (hb.take (m+1)) (by rw[List.length_take];omega);have e:val (ys.take (m+1))=val (ys.take m)+256 ^ m*ys[m]:=by
   rw[List.take_add_one,List.getElem?_eq_getElem (show m<ys.length by omega),val_append];simp[val,Nat.min_eq_left (show m<=ys.length by omega)]
  rw[List.length_take,Nat.min_eq_left (by omega)]at hv;rw[e]at z;have q:0<=256 ^ m*ys[m]:=Int.mul_nonneg (Int.le_of_lt (by exact_mod_cast Nat.pow_pos (by decide))) hx.1;rw[e,KH,A (by omega),List.getElem?_eq_getElem (show m<ys.length by omega),Option.getD_some,Vk,Int.mul_comm ys[m],wu64 q (by omega)];refine Z5w .u64 64 (by decide) wraps_u64 (8*m) (by omega) _ _ q ?_ (by show _<(18446744073709551616:Int);omega) hv.1 ?_
  ·rw[Vk];exact Int.mul_emod_right _ _
  ·rw[Vk];exact hv.2
theorem Zzi (xs:List Int) (hb:Bytes xs) (g:Nat):Jt xs g=zV xs g:=by
 unfold Jt zV;rw[ZBR _ ((hb.drop _).take _) (by rw[List.length_take];omega) _ (Nat.le_refl _),List.take_of_length_le (Nat.le_refl _)]
noncomputable def Vf (k:Int) (xs:List Int) (m g:Nat) (s:Int):Int:=(List.range' g m).foldl (fun s g=>OO k (bits .xor .u64 s (zV xs g))) s
noncomputable def Ti (k:Int) (xs:List Int):Int:=Vf k xs (gN xs) 0 (OO k xs.length)
theorem ZEb (k:Int) (xs:List Int):∀m g s,E5 s->E5 (Vf k xs m g s):=by
 intro m;induction m with
 | zero=>intro g s h;exact h
 | succ m q=>
  intro g s h;rw[Vf,List.range'_succ];exact q (g+1) _ (xM _ _)
theorem Zgf (k:Int) (xs:List Int):E5 (Ti k xs):=ZEb _ _ _ _ _ (xM _ _)
theorem ZhS (k:Int) (xs:List Int) (hb:Bytes xs) (hl:xs.length<=100000):iO k xs=some (Ti k xs):=by
 have key:∀(l:List Nat) (s:Int),l.foldlM (fun s g=>L8 k (bits .xor .u64 s (Jt xs g))) s=some (l.foldl (fun s g=>OO k (bits .xor .u64 s (zV xs g))) s):=by
  intro l;induction l with
  | nil=>intro s;rfl
  | cons g l q=>
   intro s;rw[List.foldlM_cons,YT,Zzi xs hb];exact q _
 unfold iO Ye Ti Vf;rw[if_pos (by omega),YT,Option.bind_some,key,List.range_eq_range']
theorem Zy1 (k:Int) (hk:E5 k) (xs:List Int) (hb:Bytes xs) (hl:xs.length<=100000):∀(m g:Nat) (s:Int),m+g=gN xs->AU Xd (.b1 k xs s ((8*g:Nat):Int))=some (Vf k xs m g s):=by
 intro m;induction m with
 | zero=>
  intro g s q;unfold gN at q;refine(Aa _ _).trans ?_;simp(disch:=omega) only[Xd,DN,SL,SM];rfl
 | succ m F=>
  intro g s q;have C :=q;unfold gN at q;have D:8*g<xs.length:=by omega
  refine(Aa _ _).trans ?_;have z:(if (↑xs.length:Int)<(AQ (((8*g:Nat):Int)+8)) then (↑xs.length:Int) else (AQ (((8*g:Nat):Int)+8)))=((min (8*g+8) xs.length:Nat):Int):=by
   rw[Dy (by omega) (by omega)];split<;>omega
  have A:(xs.drop (8*g)).take (min (8*g+8) xs.length - 8*g)=(xs.drop (8*g)).take 8:=by
   by_cases h:8*g+8<=xs.length
   ·rw[Nat.min_eq_left h,show 8*g+8 - 8*g=8 by omega]
   ·rw[List.take_of_length_le (by rw[List.length_drop];omega),List.take_of_length_le (by rw[List.length_drop];omega)]
  simp only[Xd,DN,z];rw[decide_eq_true (show ((8*g:Nat):Int)<(xs.length:Int) by omega),decide_eq_true (show (0:Int)<=((min (8*g+8) xs.length:Nat):Int)/\((min (8*g+8) xs.length:Nat):Int)<=(xs.length:Int) by omega)];simp only[Int.toNat_natCast];rw[decide_eq_true (show (0:Int)<=((8*g:Nat):Int)/\((8*g:Nat):Int)<=((min (8*g+8) xs.length:Nat):Int) by omega),A,ZDy _ ((hb.drop _).take _) (by rw[List.length_take];omega)];simp only[cond_true,Option.bind_some];rw[wC k _ hk (b64 _ _ _),Option.bind_some,Dy (by omega) (by omega),show ((8*g:Nat):Int)+8=((8*(g+1):Nat):Int) by omega,F (g+1) _ (by omega)];rw[Vf,Vf,List.range'_succ];rfl
theorem ZeM (k:Int) (hk:E5 k) (xs:List Int) (hb:Bytes xs) (hl:xs.length<=100000):Uz k xs=some (Ti k xs):=(Aa _ _).trans (by
 simp only[Xd,DN];rw[wu64 (by omega) (by omega),wC k _ hk ⟨by omega,by omega⟩,Option.bind_some];exact Zy1 k hk xs hb hl (gN xs) 0 _ (by omega))
def Ig (n z q:Int):Int:=bif decide (n<z) then 5 else bif decide (n>q) then 5 else 0
theorem Si (n z q:Int):Rw n z q=some (Ig n z q):=(Aa _ _).trans (by
 simp only[Z8P,DN];unfold Ig;cases decide (n<z)<;>cases decide (n>q)<;>rfl)
theorem ZeE (u:D5):pY u=some ⟨[IntKind.wrap .u64 u.EK,IntKind.wrap .u64 u.Dx,IntKind.wrap .u64 u.D9,IntKind.wrap .u64 u.Dh,IntKind.wrap .u64 u.ER]⟩:=(Aa _ _).trans rfl
theorem Zee (a b c d e:Int) (r:List Int):pJ (a::b::c::d::e::r)=some ⟨AQ a,AQ b,AQ c,AQ d,AQ e⟩:=(Aa _ _).trans (by
 have h:∀j:Int,0<=j->j<5->decide (0<=j/\j<(((a::b::c::d::e::r).length:Nat):Int))=true:=fun j q z=>decide_eq_true ⟨q,by simp only[List.length_cons];omega⟩;simp only[Z8A,DN,h 0 (by decide) (by decide),h 1 (by decide) (by decide),h 2 (by decide) (by decide),h 3 (by decide) (by decide),h 4 (by decide) (by decide),cond_true];rfl)
theorem NZ (c:AO):Wi c=some []:=(Aa _ _).trans (rfl)
theorem NG (c:AO):nU c=some [c.Bv]:=(Aa _ _).trans (rfl)
theorem Ld (c:AO):o8 c=some [IntKind.wrap .u64 c.Length]:=(Aa _ _).trans (rfl)
theorem Ls (c:AO):Z0M c=some [IntKind.wrap .u64 c.BB.EK,IntKind.wrap .u64 c.BB.Dx,IntKind.wrap .u64 c.BB.D9,IntKind.wrap .u64 c.BB.Dh,IntKind.wrap .u64 c.BB.ER,IntKind.wrap .u64 c.Ci]:=(Aa _ _).trans (by
 simp only[Z8D,DN,ZeE,Option.bind_some];rfl)
theorem Lp (c:AO):Z0T c=some [c.Map,IntKind.wrap .u64 c.Ci]:=(Aa _ _).trans (rfl)
theorem Lt (c:AO):Z0F c=some [IntKind.wrap .u64 c.BB.EK,IntKind.wrap .u64 c.BB.Dx,IntKind.wrap .u64 c.BB.D9,IntKind.wrap .u64 c.BB.Dh,IntKind.wrap .u64 c.BB.ER]:=(Aa _ _).trans (by
 simp only[Z8B,DN,ZeE,Option.bind_some];rfl)
theorem NM (c:AO):Z0h c=some [IntKind.wrap .u64 c.Bl]:=(Aa _ _).trans (rfl)
theorem NQ (c:AO):Z0B c=some [c.Bj,c.Mark]:=(Aa _ _).trans (rfl)
theorem NU (c:AO):Z0v c=some [c.Bj]:=(Aa _ _).trans (rfl)
theorem NJ (c:AO):Z0g c=some [IntKind.wrap .u64 c.DL]:=(Aa _ _).trans (rfl)
theorem NK (c:AO):Z0l c=some [IntKind.wrap .u64 c.Version]:=(Aa _ _).trans (rfl)
theorem NP (c:AO):Z0q c=some [IntKind.wrap .u64 c.Bl,IntKind.wrap .u64 c.DL]:=(Aa _ _).trans (rfl)
theorem Lj (l:List Int) (u:AO):Jd l u=some ⟨u⟩:=(Aa _ _).trans rfl
theorem LW (a:Int) (u:AO):Ov [a] u=some ⟨{ u with Bv:=a }⟩:=(Aa _ _).trans (rfl)
theorem KU (a:Int) (u:AO):Oy [a] u=some ⟨{ u with Length:=AQ a }⟩:=(Aa _ _).trans (rfl)
theorem KY (a b c d e f:Int) (u:AO):U6 [a,b,c,d,e,f] u=some ⟨{ u with BB:=⟨AQ a,AQ b,AQ c,AQ d,AQ e⟩,Ci:=IntKind.wrap .u16 f }⟩:=(Aa _ _).trans (by
 simp only[Z8u,DN,Zee,Option.bind_some]
 all_goals rfl)
theorem KW (a b:Int) (u:AO):U5 [a,b] u=some ⟨{ u with Map:=a,Ci:=IntKind.wrap .u16 b }⟩:=(Aa _ _).trans (rfl)
theorem KX (a b c d e:Int) (u:AO):U4 [a,b,c,d,e] u=some ⟨{ u with BB:=⟨AQ a,AQ b,AQ c,AQ d,AQ e⟩ }⟩:=(Aa _ _).trans (by
 simp only[Z8G,DN,Zee,Option.bind_some]
 all_goals rfl)
theorem LZ (a:Int) (u:AO):UW [a] u=some ⟨{ u with Bl:=AQ a }⟩:=(Aa _ _).trans (rfl)
theorem Lc (a b:Int) (u:AO):UX [a,b] u=some ⟨{ u with Bj:=a,Mark:=b }⟩:=(Aa _ _).trans (rfl)
theorem Lh (a:Int) (u:AO):UU [a] u=some ⟨{ u with Bj:=a }⟩:=(Aa _ _).trans (rfl)
theorem L9 (a:Int) (u:AO):UR [a] u=some ⟨{ u with DL:=AQ a }⟩:=(Aa _ _).trans (rfl)
theorem La (a:Int) (u:AO):UK [a] u=some ⟨{ u with Version:=AQ a }⟩:=(Aa _ _).trans (rfl)
theorem L6 (a b:Int) (u:AO):UY [a,b] u=some ⟨{ u with Bl:=AQ a,DL:=AQ b }⟩:=(Aa _ _).trans (rfl)
theorem Nb (c:AO):Oz c=some (0):=(Aa _ _).trans (by
 simp only[Z9S,DN,Si,Rn,Option.bind_some])
theorem LY (c:AO):oP c=some (Ig c.Length 27 251):=(Aa _ _).trans (by
 simp only[Z8l,DN,Si,Rn,Option.bind_some])
theorem Lu (c:AO):Z0I c=some (He c.BB):=(Aa _ _).trans (by
 simp only[Z8K,DN,Si,Rn,Option.bind_some])
theorem Zdc (c:AO) (h:0<=c.Map/\c.Map<18446744073709551616):Z0L c=some (Ij c.Map):=(Aa _ _).trans (by
 have:=Zoz c.Map.toNat (by omega);rw[Int.toNat_of_nonneg h.1]at this;simp only[Z8w,DN,this,Option.bind_some])
theorem Ll (c:AO):Z0K c=some (He c.BB):=(Aa _ _).trans (by
 simp only[Z8t,DN,Si,Rn,Option.bind_some])
theorem NL (c:AO):Z0i c=some (Ig c.Bl 0 255):=(Aa _ _).trans (by
 simp only[Z8d,DN,Si,Rn,Option.bind_some])
theorem NS (c:AO):Z0C c=some (Ig c.DL 0 255):=(Aa _ _).trans (by
 simp only[Z8f,DN,Si,Rn,Option.bind_some])
theorem NT (c:AO):Z0w c=some (Ig c.Version 0 255):=(Aa _ _).trans (by
 simp only[Z8g,DN,Si,Rn,Option.bind_some])
theorem NR (c:AO):Z0z c=some ((if Ig c.DL 0 255>Ig c.Bl 0 255 then Ig c.DL 0 255 else Ig c.Bl 0 255)):=(Aa _ _).trans (by
 simp only[Z8n,DN,Si,Rn,Option.bind_some])
theorem ww {x:Int} (h:0<=x) (q : x<9223372036854775808):AQ (IntKind.wrap .u64 x)=x:=by rw[wu64 h (by omega),Dy (by omega) (by omega)]
theorem zT {x:Int} (h:R16 x):IntKind.wrap .u16 (IntKind.wrap .u64 x)=x:=by rw[wu64 h.1 (by have:=h.2;omega),wu16 h.1 h.2]
theorem Z5R {n z q:Int} (h:z<=n) (A : n<=q):Ig n z q=0:=by unfold Ig;rw[decide_eq_false (by omega),decide_eq_false (by omega)];rfl
theorem mJ {n:Int} (h:R8 n):Ig n 0 255=0:=Z5R h.1 (by have:=h.2;omega)
theorem Jk (c:AO):Vm c c=true:=by simp[Vm]
theorem Z5P {u:D5} (h:He u=0):1<=u.EK/\u.EK<=8/\0<=u.Dx/\u.Dx<=3200/\6<=u.D9/\u.D9<=3200/\0<=u.Dh/\u.Dh<=499/\10<=u.ER/\u.ER<=3200:=by
 unfold He at h
 by_cases hb:(!(inB u.EK 1 8&&inB u.Dx 0 3200&&inB u.D9 6 3200&&inB u.Dh 0 499&&inB u.ER 10 3200))=true
 ·rw[if_pos hb]at h;cases h
 ·simp[inB]at hb;omega
theorem ZFL {m:Int} (h:Ij m=0):m<137438953472:=by
 unfold Ij at h
 by_cases hb:m>=137438953472
 ·rw[if_pos hb]at h;cases h
 ·omega
theorem Zo9 {c:AO} (h:CV c):O1 c=some 0:=by
 have hf:QT=some ():=rfl;refine(Aa _ _).trans ?_;cases h
 case upd u i q h2=>
  have hb:=Z5P q;simp only[JM,FT,DN,hf,Option.bind_some,NG,LW,Nb,Ls,NM,LZ,NL,NQ,Lc,NU,Lh,NJ,L9,NS,KY,NK,La,NT,NP,L6,NR,Lu,Lp,KW,Lt,KX,Ll,Ld,KU,LY,NZ,Lj,ww (show 0<=u.EK by omega) (by omega),ww (show 0<=u.Dx by omega) (by omega),ww (show 0<=u.D9 by omega) (by omega),ww (show 0<=u.Dh by omega) (by omega),ww (show 0<=u.ER by omega) (by omega),zT h2,Jk,Int.reduceBEq,Int.reduceEq,beq_self_eq_true,Bool.and_self,Bool.not_true,cond_true,cond_false, *]
 case map m i q h2 h3=>
  simp only[JM,FT,DN,hf,Option.bind_some,NG,LW,Nb,Ls,NM,LZ,NL,NQ,Lc,NU,Lh,NJ,L9,NS,KY,NK,La,NT,NP,L6,NR,Lu,Lp,KW,Lt,KX,Ll,Ld,KU,LY,NZ,Lj,zT h3,Zdc (⟨1,Be,m,i,0,0,0,0,0,0,0⟩:AO) q,Jk,Int.reduceBEq,Int.reduceEq,beq_self_eq_true,Bool.and_self,Bool.not_true,cond_true,cond_false, *]
 case term r q=>simp only[JM,FT,DN,hf,Option.bind_some,NG,LW,Nb,Ls,NM,LZ,NL,NQ,Lc,NU,Lh,NJ,L9,NS,KY,NK,La,NT,NP,L6,NR,Lu,Lp,KW,Lt,KX,Ll,Ld,KU,LY,NZ,Lj,ww q.1 (Int.lt_trans q.2 (by decide)),mJ q,Jk,Int.reduceBEq,Int.reduceEq,beq_self_eq_true,Bool.and_self,Bool.not_true,cond_true,cond_false, *]
 case enc s m q h2=>simp only[JM,FT,DN,hf,Option.bind_some,NG,LW,Nb,Ls,NM,LZ,NL,NQ,Lc,NU,Lh,NJ,L9,NS,KY,NK,La,NT,NP,L6,NR,Lu,Lp,KW,Lt,KX,Ll,Ld,KU,LY,NZ,Lj,Jk,Int.reduceBEq,Int.reduceEq,beq_self_eq_true,Bool.and_self,Bool.not_true,cond_true,cond_false, *]
 case ans s q=>simp only[JM,FT,DN,hf,Option.bind_some,NG,LW,Nb,Ls,NM,LZ,NL,NQ,Lc,NU,Lh,NJ,L9,NS,KY,NK,La,NT,NP,L6,NR,Lu,Lp,KW,Lt,KX,Ll,Ld,KU,LY,NZ,Lj,Jk,Int.reduceBEq,Int.reduceEq,beq_self_eq_true,Bool.and_self,Bool.not_true,cond_true,cond_false, *]
 case plain k q=>rcases q with rfl|rfl|rfl|rfl<;>simp only[JM,FT,DN,hf,Option.bind_some,NG,LW,Nb,Ls,NM,LZ,NL,NQ,Lc,NU,Lh,NJ,L9,NS,KY,NK,La,NT,NP,L6,NR,Lu,Lp,KW,Lt,KX,Ll,Ld,KU,LY,NZ,Lj,Jk,Int.reduceBEq,Int.reduceEq,beq_self_eq_true,Bool.and_self,Bool.not_true,cond_true,cond_false, *]
 case UB r q=>simp only[JM,FT,DN,hf,Option.bind_some,NG,LW,Nb,Ls,NM,LZ,NL,NQ,Lc,NU,Lh,NJ,L9,NS,KY,NK,La,NT,NP,L6,NR,Lu,Lp,KW,Lt,KX,Ll,Ld,KU,LY,NZ,Lj,ww q.1 (Int.lt_trans q.2 (by decide)),mJ q,Jk,Int.reduceBEq,Int.reduceEq,beq_self_eq_true,Bool.and_self,Bool.not_true,cond_true,cond_false, *]
 case Y2 k f q h2=>rcases q with rfl|rfl<;>simp only[JM,FT,DN,hf,Option.bind_some,NG,LW,Nb,Ls,NM,LZ,NL,NQ,Lc,NU,Lh,NJ,L9,NS,KY,NK,La,NT,NP,L6,NR,Lu,Lp,KW,Lt,KX,Ll,Ld,KU,LY,NZ,Lj,Jk,Int.reduceBEq,Int.reduceEq,beq_self_eq_true,Bool.and_self,Bool.not_true,cond_true,cond_false, *]
 case WE v q=>simp only[JM,FT,DN,hf,Option.bind_some,NG,LW,Nb,Ls,NM,LZ,NL,NQ,Lc,NU,Lh,NJ,L9,NS,KY,NK,La,NT,NP,L6,NR,Lu,Lp,KW,Lt,KX,Ll,Ld,KU,LY,NZ,Lj,ww q.1 (Int.lt_trans q.2 (by decide)),mJ q,Jk,Int.reduceBEq,Int.reduceEq,beq_self_eq_true,Bool.and_self,Bool.not_true,cond_true,cond_false, *]
 case UC r k q h2=>simp only[JM,FT,DN,hf,Option.bind_some,NG,LW,Nb,Ls,NM,LZ,NL,NQ,Lc,NU,Lh,NJ,L9,NS,KY,NK,La,NT,NP,L6,NR,Lu,Lp,KW,Lt,KX,Ll,Ld,KU,LY,NZ,Lj,ww q.1 (Int.lt_trans q.2 (by decide)),mJ q,ww h2.1 (Int.lt_trans h2.2 (by decide)),mJ h2,Int.lt_irrefl,ite_self,Jk,Int.reduceBEq,Int.reduceEq,beq_self_eq_true,Bool.and_self,Bool.not_true,cond_true,cond_false, *]
 case par u q=>
  have hb:=Z5P q;simp only[JM,FT,DN,hf,Option.bind_some,NG,LW,Nb,Ls,NM,LZ,NL,NQ,Lc,NU,Lh,NJ,L9,NS,KY,NK,La,NT,NP,L6,NR,Lu,Lp,KW,Lt,KX,Ll,Ld,KU,LY,NZ,Lj,ww (show 0<=u.EK by omega) (by omega),ww (show 0<=u.Dx by omega) (by omega),ww (show 0<=u.D9 by omega) (by omega),ww (show 0<=u.Dh by omega) (by omega),ww (show 0<=u.ER by omega) (by omega),Jk,Int.reduceBEq,Int.reduceEq,beq_self_eq_true,Bool.and_self,Bool.not_true,cond_true,cond_false, *]
 case len k n q h2 h3=>rcases q with rfl|rfl<;>simp only[JM,FT,DN,hf,Option.bind_some,NG,LW,Nb,Ls,NM,LZ,NL,NQ,Lc,NU,Lh,NJ,L9,NS,KY,NK,La,NT,NP,L6,NR,Lu,Lp,KW,Lt,KX,Ll,Ld,KU,LY,NZ,Lj,ww (show 0<=n by omega) (by omega),Z5R h2 h3,Jk,Int.reduceBEq,Int.reduceEq,beq_self_eq_true,Bool.and_self,Bool.not_true,cond_true,cond_false, *]
theorem kC (k:Int):(DJ k=some ⟨true,true,false,true,false,false,false,false,false,false,false⟩/\k=0)\/(DJ k=some ⟨true,false,true,true,false,false,false,false,false,false,false⟩/\k=1) \/
  (DJ k=some ⟨true,false,false,false,true,false,false,false,false,false,false⟩/\k=2)\/(DJ k=some ⟨true,false,false,false,false,false,true,true,false,false,false⟩/\k=3) \/
  (DJ k=some ⟨true,false,false,false,false,false,true,false,false,false,false⟩/\k=4)\/(DJ k=some ⟨true,false,false,false,false,false,false,false,false,false,false⟩/\(k=5\/k=6\/k=18\/k=19)) \/
  (DJ k=some ⟨true,false,false,false,false,true,false,false,false,false,false⟩/\k=7)\/(DJ k=some ⟨true,false,false,false,false,false,false,false,true,false,false⟩/\(k=8\/k=9)) \/
  (DJ k=some ⟨true,false,false,false,false,false,false,false,false,true,false⟩/\k=12)\/(DJ k=some ⟨true,false,false,false,true,true,false,false,false,false,false⟩/\k=13) \/
  (DJ k=some ⟨true,true,false,false,false,false,false,false,false,false,false⟩/\k=15)\/(DJ k=some ⟨true,false,false,false,false,false,false,false,false,false,true⟩/\(k=20\/k=21)) \/
  (DJ k=some OW/\(k<0\/9<k/\k<12\/k=14\/15<k/\k<18\/21<k)):=by
 have e6:∀z,AU PG (.b6 z)=some OW:=fun z=>(Aa _ _).trans rfl;have e5:∀z,AU PG (.b5 z)=some ⟨true,false,false,false,false,false,false,false,false,false,true⟩:=fun z=>(Aa _ _).trans rfl;have e3:∀z,AU PG (.b3 z)=some ⟨true,false,false,false,false,false,false,false,true,false,false⟩:=fun z=>(Aa _ _).trans rfl;have e1:∀z,AU PG (.b1 z)=some ⟨true,false,false,false,false,false,false,false,false,false,false⟩:=fun z=>(Aa _ _).trans rfl;have N:=fun k z=>Aa PG (.b4 k z);have M:=fun k z=>Aa PG (.b2 k z);have J:DJ k=_:=Aa PG (.b0 k);simp only[PG,DN,e6,e5,e3,e1]at N M J;simp only[N,M]at J;rw[J]
 by_cases O:k=0
 ·subst O;exact .inl ⟨rfl,rfl⟩
 by_cases Q:k=1
 ·subst Q;exact .inr (.inl ⟨rfl,rfl⟩)
 by_cases S:k=2
 ·subst S;exact .inr (.inr (.inl ⟨rfl,rfl⟩))
 by_cases Y:k=3
 ·subst Y;exact .inr (.inr (.inr (.inl ⟨rfl,rfl⟩)))
 by_cases h4:k=4
 ·subst h4;exact .inr (.inr (.inr (.inr (.inl ⟨rfl,rfl⟩))))
 by_cases h5:k=5
 ·subst h5;exact .inr (.inr (.inr (.inr (.inr (.inl ⟨rfl,.inl rfl⟩)))))
 by_cases h6:k=6
 ·subst h6;exact .inr (.inr (.inr (.inr (.inr (.inl ⟨rfl,.inr (.inl rfl)⟩)))))
 by_cases D:k=18
 ·subst D;exact .inr (.inr (.inr (.inr (.inr (.inl ⟨rfl,.inr (.inr (.inl rfl))⟩)))))
 by_cases F:k=19
 ·subst F;exact .inr (.inr (.inr (.inr (.inr (.inl ⟨rfl,.inr (.inr (.inr rfl))⟩)))))
 by_cases h7:k=7
 ·subst h7;exact .inr (.inr (.inr (.inr (.inr (.inr (.inl ⟨rfl,rfl⟩))))))
 by_cases h8:k=8
 ·subst h8;exact .inr (.inr (.inr (.inr (.inr (.inr (.inr (.inl ⟨rfl,.inl rfl⟩)))))))
 by_cases h9:k=9
 ·subst h9;exact .inr (.inr (.inr (.inr (.inr (.inr (.inr (.inl ⟨rfl,.inr rfl⟩)))))))
 by_cases q:k=12
 ·subst q;exact .inr (.inr (.inr (.inr (.inr (.inr (.inr (.inr (.inl ⟨rfl,rfl⟩))))))))
 by_cases A:k=13
 ·subst A;exact .inr (.inr (.inr (.inr (.inr (.inr (.inr (.inr (.inr (.inl ⟨rfl,rfl⟩)))))))))
 by_cases C:k=15
 ·subst C;exact .inr (.inr (.inr (.inr (.inr (.inr (.inr (.inr (.inr (.inr (.inl ⟨rfl,rfl⟩))))))))))
 by_cases G:k=20
 ·subst G;exact .inr (.inr (.inr (.inr (.inr (.inr (.inr (.inr (.inr (.inr (.inr (.inl ⟨rfl,.inl rfl⟩)))))))))))
 by_cases I:k=21
 ·subst I;exact .inr (.inr (.inr (.inr (.inr (.inr (.inr (.inr (.inr (.inr (.inr (.inl ⟨rfl,.inr rfl⟩)))))))))))
 refine .inr (.inr (.inr (.inr (.inr (.inr (.inr (.inr (.inr (.inr (.inr (.inr ⟨?_,by omega⟩)))))))))));rw[beq_false_of_ne O,beq_false_of_ne Q,beq_false_of_ne S,beq_false_of_ne Y,beq_false_of_ne h4,beq_false_of_ne h5,beq_false_of_ne h6,beq_false_of_ne D,beq_false_of_ne F,beq_false_of_ne h7,beq_false_of_ne h8,beq_false_of_ne h9,beq_false_of_ne q,beq_false_of_ne A,beq_false_of_ne C,beq_false_of_ne G,beq_false_of_ne I];rfl
def V3 (c:AO) (u:CE):AO:=⟨0,bif u.BB then Be else c.BB,bif u.Map then 0 else c.Map,bif u.Ci then 0 else c.Ci,bif u.Bl then 0 else c.Bl,bif u.DL then 0 else c.DL,bif u.Bj then 0 else c.Bj,bif u.Mark then 0 else c.Mark,bif u.Bv then 0 else c.Bv,bif u.Version then 0 else c.Version,bif u.Length then 0 else c.Length⟩
theorem ZGi (c:AO) (u:CE) (hf:DJ c.Kind=some u):uM c=some (V3 c u):=by
 have Q:=fun x y=>Aa HY (.b1 x y u);have S:=fun x y=>Aa HY (.b2 x y u);have Y:=fun x y=>Aa HY (.b3 x y u);have e4:=fun x y=>Aa HY (.b4 x y u);have e5:=fun x y=>Aa HY (.b5 x y u);have e6:=fun x y=>Aa HY (.b6 x y u);have e7:=fun x y=>Aa HY (.b7 x y u);have e8:=fun x y=>Aa HY (.b8 x y u);have e9:=fun x y=>Aa HY (.b9 x y u);refine(Aa _ _).trans ?_;simp only[HY,DN]at Q S Y e4 e5 e6 e7 e8 e9 ⊢;simp only[hf,Option.bind_some];unfold V3;obtain⟨O,A,C,D,F,G,I,J,M,N,q⟩:=u;have b1:(bif A then AU HY (.b1 { c with Kind:=0,BB:=Be } EO ⟨O,A,C,D,F,G,I,J,M,N,q⟩) else AU HY (.b1 { c with Kind:=0 } EO ⟨O,A,C,D,F,G,I,J,M,N,q⟩))=AU HY (.b1 { c with Kind:=0,BB:=bif A then Be else c.BB } EO ⟨O,A,C,D,F,G,I,J,M,N,q⟩):=by cases A<;>rfl
 refine b1.trans ?_;have z:∀(b:Bool) (x y:AO) (f:AO->Option AO),(bif b then f x else f y)=f (bif b then x else y):=fun b _ _ _=>by cases b<;>rfl
 rw[Q,z C _ _ (fun x=>AU HY (.b2 x _ _)),S,z D _ _ (fun x=>AU HY (.b3 x _ _)),Y,z F _ _ (fun x=>AU HY (.b4 x _ _)),e4,z G _ _ (fun x=>AU HY (.b5 x _ _)),e5,z I _ _ (fun x=>AU HY (.b6 x _ _)),e6,z J _ _ (fun x=>AU HY (.b7 x _ _)),e7,z M _ _ (fun x=>AU HY (.b8 x _ _)),e8,z N _ _ (fun x=>AU HY (.b9 x _ _)),e9,z q _ _ some];congr 1;cases C<;>cases D<;>cases F<;>cases G<;>cases I<;>cases J<;>cases M<;>cases N<;>cases q<;>rfl
def Jw (n:Int):Bool:=bif decide (n>=0) then decide (n<=255) else false
theorem ZCn (n:Int):XG n=some (Jw n):=(Aa _ _).trans (by
 simp only[Z1Z,DN];unfold Jw;cases decide (n>=0)<;>rfl)
theorem Z4W (n:Int):Jw n=true↔R8 n:=by
 unfold Jw R8
 by_cases h:n>=0
 ·rw[decide_eq_true h,cond_true,decide_eq_true_eq];omega
 ·rw[decide_eq_false h,cond_false];exact⟨(fun h=>nomatch h),fun q =>by omega⟩
def zC (x:AO):Bool:=(x.Kind==0)&&((x.BB.EK==0)&&((x.BB.Dx==0)&&((x.BB.D9==0)&&((x.BB.Dh==0)&&((x.BB.ER==0)&&((x.Map==0)&&((x.Ci==0)&&((x.Bl==0)&&((x.DL==0)&&((x.Bj==0)&&((x.Mark==0)&&((x.Bv==0)&&((x.Version==0)&&((x.Length==0)&&true))))))))))))))
theorem ZFd (x:AO):zC x=true↔x=EO:=by
 obtain⟨k,⟨a,b,c,d,e⟩,m,i,r,q,s,mk,f,v,l⟩:=x;simp[zC,EO,Be,and_assoc]
def Zd (c:AO) (u:CE):Int:=bif !u.FI then 12 else bif !zC (V3 c u) then 1 else bif u.BB&&(He c.BB != 0) then He c.BB else bif u.Map&&(Ij c.Map != 0) then Ij c.Map else bif !Jw c.Bl then 5 else bif !Jw c.DL then 5 else bif !Jw c.Version then 5 else bif u.Length&&(decide (c.Length<27)||decide (c.Length>251)) then 5 else 0
theorem XY (c:AO) (u:CE) (hf:DJ c.Kind=some u) (hm:0<=c.Map/\c.Map<18446744073709551616):JO c=some (Zd c u):=by
 have A:AU XU (.b2 c u)=some (bif !Jw c.Bl then 5 else bif !Jw c.DL then 5 else bif !Jw c.Version then 5 else bif u.Length&&(decide (c.Length<27)||decide (c.Length>251)) then 5 else 0):=(Aa _ _).trans (by
  simp only[XU,DN,ZCn,Option.bind_some];cases Jw c.Bl<;>cases Jw c.DL<;>cases Jw c.Version<;>cases u.Length<;>cases decide (c.Length<27)<;>cases decide (c.Length>251)<;>rfl)
 have q:AU XU (.b1 c u)=some (bif u.Map&&(Ij c.Map != 0) then Ij c.Map else bif !Jw c.Bl then 5 else bif !Jw c.DL then 5 else bif !Jw c.Version then 5 else bif u.Length&&(decide (c.Length<27)||decide (c.Length>251)) then 5 else 0):=(Aa _ _).trans (by
  have h:=Zvw c.Map.toNat (by omega);rw[Int.toNat_of_nonneg hm.1]at h;simp only[XU,DN,h,Option.bind_some,A];cases u.Map<;>cases (Ij c.Map != 0)<;>rfl)
 refine(Aa _ _).trans ?_;simp only[XU,DN,hf,Option.bind_some,ZGi c u hf,Zn6,q];unfold Zd;rw[show zC (V3 c u)=_ from rfl];cases u.FI
 ·rfl
 ·simp only[Bool.not_true,cond_false];unfold zC;generalize ((V3 c u).Kind==0&&_)=z;cases z
  ·rfl
  ·cases u.BB<;>cases (He c.BB != 0)<;>rfl
theorem TY {x:Bool} {a b:Int} (h:x=true->a≠0):(bif x then a else b)=0↔x=false/\b=0:=by cases x<;>simp_all
theorem Zgh {c:AO} {u:CE}:Zd c u=0↔u.FI=true/\V3 c u=EO/\(u.BB=true->He c.BB=0)/\(u.Map=true->Ij c.Map=0)/\R8 c.Bl/\R8 c.DL/\R8 c.Version/\(u.Length=true->27<=c.Length/\c.Length<=251):=by
 rw[<- ZFd,<- Z4W,<- Z4W,<- Z4W];unfold Zd;have q:(u.BB&&(He c.BB != 0))=false↔(u.BB=true->He c.BB=0):=by cases u.BB<;>simp
 have z:(u.Map&&(Ij c.Map != 0))=false↔(u.Map=true->Ij c.Map=0):=by cases u.Map<;>simp
 have A:(u.Length&&(decide (c.Length<27)||decide (c.Length>251)))=false↔(u.Length=true->27<=c.Length/\c.Length<=251):=by cases u.Length<;>simp
 rw[TY (fun _=>by decide),TY (fun _=>by decide),TY (fun h=>by simp at h;exact h.2),TY (fun h=>by simp at h;exact h.2),TY (fun _=>by decide),TY (fun _=>by decide),TY (fun _=>by decide),TY (fun _=>by decide),q,z,A];simp only[Bool.not_eq_false',and_true]
theorem Zct {c:AO} (h:CV c):JO c=some 0:=by
 have hm:0<=c.Map/\c.Map<18446744073709551616:=by cases h<;>first|assumption|exact(⟨by decide,by decide⟩:CU 0)
 have q:R8 0:=⟨by decide,by decide⟩;rcases kC c.Kind with ⟨hf,hk⟩|⟨hf,hk⟩|⟨hf,hk⟩|⟨hf,hk⟩|⟨hf,hk⟩|⟨hf,hk⟩|⟨hf,hk⟩|⟨hf,hk⟩|⟨hf,hk⟩|⟨hf,hk⟩|⟨hf,hk⟩|⟨hf,hk⟩|⟨hf,hk⟩
 all_goals
  rw[XY c _ hf hm];refine congrArg some (Zgh.2 ?_);cases h<;>first|(exfalso;dsimp only at hk;omega)|(refine⟨rfl,rfl,?_,?_,?_,?_,?_,?_⟩<;>first|assumption|(intro;assumption)|(intro;exact⟨by assumption,by assumption⟩)|(intro h;exact nomatch h))
theorem Zrr (c:AO) (hm:CU c.Map) (G:R16 c.Ci) (hs:CU c.Bj) (z : CU c.Mark) (q:CU c.Bv):∃r,JO c=some r/\(r=0->CV c):=by
 rcases kC c.Kind with ⟨hf,hk⟩|⟨hf,hk⟩|⟨hf,hk⟩|⟨hf,hk⟩|⟨hf,hk⟩|⟨hf,hk⟩|⟨hf,hk⟩|⟨hf,hk⟩|⟨hf,hk⟩|⟨hf,hk⟩|⟨hf,hk⟩|⟨hf,hk⟩|⟨hf,hk⟩
 all_goals
  refine⟨_,XY c _ hf hm,fun hz=>?_⟩;obtain⟨N,I,A,J,C,D,M,F⟩:=Zgh.1 hz;obtain⟨k,u,m,i,r,O,s,mk,f,v,l⟩:=c
  first
   | exact absurd N (by decide)
   | (simp only[V3,EO,cond_true,cond_false,AO.mk.injEq,true_and,and_true]at I
      dsimp only at hk A J C D M F hm G hs z q;simp only[I]
      first
       | (subst hk;first|exact CV.upd _ _ (A rfl) G|exact CV.map _ _ hm (J rfl) G|exact CV.term _ C|exact CV.enc _ _ hs z | exact CV.ans _ hs|exact CV.UB _ D|exact CV.WE _ M|exact CV.UC _ _ C D|exact CV.par _ (A rfl))
       | exact CV.plain _ hk
       | exact CV.Y2 _ _ hk q
       | exact CV.len _ _ hk (F rfl).1 (F rfl).2)
theorem Zzd (m:Nat) (hm:m<=100) (v:Int) (h:E5 v):∀(d j:Nat),j+d=m->AU Xf (.b1 (v / 256 ^ j) m (num j v) j)=some ⟨num m v⟩:=by
 intro d;induction d with
 | zero=>
  intro j A;obtain rfl:j=m:=by omega
  refine(Aa _ _).trans ?_;simp(disch:=omega) only[Xf,Int.lt_irrefl,DN,SL,SM]
 | succ d C=>
  intro j A;have p:(0:Int)<256 ^ j:=by exact_mod_cast Nat.pow_pos (by decide)
  have q:0<=v / 256 ^ j:=Int.ediv_nonneg h.1 (Int.le_of_lt p);have D : v / 256 ^ j<18446744073709551616:=Int.lt_of_le_of_lt (Int.ediv_le_self _ h.1) h.2;have z:j<m:=by omega
  have hl:=EL j v;rw[<- C (j+1) (by omega),Z4n];refine(Aa _ _).trans ?_;simp(disch:=omega) only[Xf,z,hl,Int.tmod_eq_emod_of_nonneg q,Int.tdiv_eq_ediv_of_nonneg q,DN,SL,SM];rw[Tz (by omega) (by omega),wu64 (by omega) (by omega),Int.ediv_ediv_of_nonneg (by omega),Int.pow_succ]
theorem Xo (m:Nat) (hm:m<=100) (v:Int) (h:E5 v):IL v m=some ⟨num m v⟩:=(Aa _ _).trans (by
 simp only[Xf,DN,SL,SM];have:=Zzd m hm v h m 0 (by omega);simpa[num]using this)
theorem putW (m:Nat) (hm:m<=100) (v:Int):IL (IntKind.wrap .u64 v) m=some ⟨num m (IntKind.wrap .u64 v)⟩:=Xo m hm _ (Zi v)
def updB (u:D5):List Int:=num 1 (IntKind.wrap .u64 u.EK)++num 2 (IntKind.wrap .u64 u.Dx)++num 2 (IntKind.wrap .u64 u.D9)++num 2 (IntKind.wrap .u64 u.Dh)++num 2 (IntKind.wrap .u64 u.ER)
theorem jT (u:D5):(updB u).length=9:=by simp[updB,EL]
theorem ZuW (u:D5):qA u=some (updB u):=(Aa _ _).trans (by
 have q:∀v,IL (IntKind.wrap .u64 v) 1=some ⟨num 1 (IntKind.wrap .u64 v)⟩:=fun v=>putW 1 (by decide) v;have z:∀v,IL (IntKind.wrap .u64 v) 2=some ⟨num 2 (IntKind.wrap .u64 v)⟩:=fun v=>putW 2 (by decide) v;simp(disch:=omega) only[Z1c,q,z,EL,DN,SL,SM];rfl)
def BD (c:AO) (u:CE):List Int:=[IntKind.wrap .u8 c.Kind]++((bif u.BB then updB c.BB else [])++((bif u.Map then num 5 c.Map else [])++((bif u.Ci then num 2 (IntKind.wrap .u64 c.Ci) else [])++((bif u.Bl then [IntKind.wrap .u8 c.Bl] else [])++((bif u.DL then [IntKind.wrap .u8 c.DL] else [])++
 ((bif u.Bj then num 8 c.Bj else [])++((bif u.Mark then num 8 c.Mark else [])++((bif u.Bv then num 8 c.Bv else [])++((bif u.Version then [IntKind.wrap .u8 c.Version] else [])++(bif u.Length then [IntKind.wrap .u8 c.Length] else []))))))))))
theorem Ztc (c:AO) (u:CE) (hf:DJ c.Kind=some u) (hk:JO c=some 0) (hm:E5 c.Map) (hs:E5 c.Bj) (M:E5 c.Mark) (N:E5 c.Bv):Ug c=some (BD c u,0):=by
 have Q:IL c.Map 5=_:=Xo 5 (by decide) _ hm;have O:IL (IntKind.wrap .u64 c.Ci) 2=_:=Xo 2 (by decide) _ (Zi _);have ps:IL c.Bj 8=_:=Xo 8 (by decide) _ hs;have S:IL c.Mark 8=_:=Xo 8 (by decide) _ M;have Y:IL c.Bv 8=_:=Xo 8 (by decide) _ N;have J:∀a:List Int,a.length<=90->AU I5 (.b9 a c u)=some (a++(bif u.Length then [IntKind.wrap .u8 c.Length] else []),0):=fun a h=>(Aa _ _).trans (by
  cases hu:u.Length<;>simp(disch:=omega) only[I5,hu,List.append_nil,DN,SL,SM])
 have I:∀a:List Int,a.length<=85->AU I5 (.b8 a c u)=some (a++((bif u.Version then [IntKind.wrap .u8 c.Version] else [])++(bif u.Length then [IntKind.wrap .u8 c.Length] else [])),0):=fun a h=>(Aa _ _).trans (by
  cases hu:u.Version<;>simp(disch:=omega) only[I5,hu,DN,SL,SM]<;>rw[J _ (by first|omega|(simp;omega))]<;>(try simp only[List.append_assoc,List.nil_append]))
 have G:∀a:List Int,a.length<=75->AU I5 (.b7 a c u)=some (a++((bif u.Bv then num 8 c.Bv else [])++((bif u.Version then [IntKind.wrap .u8 c.Version] else [])++(bif u.Length then [IntKind.wrap .u8 c.Length] else []))),0):=fun a h=>(Aa _ _).trans (by
  cases hu:u.Bv<;>simp(disch:=omega) only[I5,hu,Y,EL,DN,SL,SM]<;>rw[I _ (by first|omega|(simp[EL];omega))]<;>(try simp only[List.append_assoc,List.nil_append]))
 have F:∀a:List Int,a.length<=65->AU I5 (.b6 a c u)=some (a++((bif u.Mark then num 8 c.Mark else [])++((bif u.Bv then num 8 c.Bv else [])++((bif u.Version then [IntKind.wrap .u8 c.Version] else [])++(bif u.Length then [IntKind.wrap .u8 c.Length] else [])))),0):=fun a h=>(Aa _ _).trans (by
  cases hu:u.Mark<;>simp(disch:=omega) only[I5,hu,S,EL,DN,SL,SM]<;>rw[G _ (by first|omega|(simp[EL];omega))]<;>(try simp only[List.append_assoc,List.nil_append]))
 have D:∀a:List Int,a.length<=55->AU I5 (.b5 a c u)=some (a++((bif u.Bj then num 8 c.Bj else [])++((bif u.Mark then num 8 c.Mark else [])++((bif u.Bv then num 8 c.Bv else [])++((bif u.Version then [IntKind.wrap .u8 c.Version] else [])++(bif u.Length then [IntKind.wrap .u8 c.Length] else []))))),0):=fun a h=>(Aa _ _).trans (by
  cases hu:u.Bj<;>simp(disch:=omega) only[I5,hu,ps,EL,DN,SL,SM]<;>rw[F _ (by first|omega|(simp[EL];omega))]<;>(try simp only[List.append_assoc,List.nil_append]))
 have C:∀a:List Int,a.length<=50->AU I5 (.b4 a c u)=some (a++((bif u.DL then [IntKind.wrap .u8 c.DL] else [])++((bif u.Bj then num 8 c.Bj else [])++((bif u.Mark then num 8 c.Mark else [])++((bif u.Bv then num 8 c.Bv else [])++((bif u.Version then [IntKind.wrap .u8 c.Version] else [])++(bif u.Length then [IntKind.wrap .u8 c.Length] else [])))))),0):=fun a h=>(Aa _ _).trans (by
  cases hu:u.DL<;>simp(disch:=omega) only[I5,hu,DN,SL,SM]<;>rw[D _ (by first|omega|(simp;omega))]<;>(try simp only[List.append_assoc,List.nil_append]))
 have A:∀a:List Int,a.length<=45->AU I5 (.b3 a c u)=some (a++((bif u.Bl then [IntKind.wrap .u8 c.Bl] else [])++((bif u.DL then [IntKind.wrap .u8 c.DL] else [])++((bif u.Bj then num 8 c.Bj else [])++((bif u.Mark then num 8 c.Mark else [])++((bif u.Bv then num 8 c.Bv else [])++((bif u.Version then [IntKind.wrap .u8 c.Version] else [])++(bif u.Length then [IntKind.wrap .u8 c.Length] else []))))))),0):=fun a h=>(Aa _ _).trans (by
  cases hu:u.Bl<;>simp(disch:=omega) only[I5,hu,DN,SL,SM]<;>rw[C _ (by first|omega|(simp;omega))]<;>(try simp only[List.append_assoc,List.nil_append]))
 have z:∀a:List Int,a.length<=40->AU I5 (.b2 a c u)=some (a++((bif u.Ci then num 2 (IntKind.wrap .u64 c.Ci) else [])++((bif u.Bl then [IntKind.wrap .u8 c.Bl] else [])++((bif u.DL then [IntKind.wrap .u8 c.DL] else [])++((bif u.Bj then num 8 c.Bj else [])++((bif u.Mark then num 8 c.Mark else [])++((bif u.Bv then num 8 c.Bv else [])++((bif u.Version then [IntKind.wrap .u8 c.Version] else [])++(bif u.Length then [IntKind.wrap .u8 c.Length] else [])))))))),0):=fun a h=>(Aa _ _).trans (by
  cases hu:u.Ci<;>simp(disch:=omega) only[I5,hu,O,EL,DN,SL,SM]<;>rw[A _ (by first|omega|(simp[EL];omega))]<;>(try simp only[List.append_assoc,List.nil_append]))
 have q:∀a:List Int,a.length<=30->AU I5 (.b1 a c u)=some (a++((bif u.Map then num 5 c.Map else [])++((bif u.Ci then num 2 (IntKind.wrap .u64 c.Ci) else [])++((bif u.Bl then [IntKind.wrap .u8 c.Bl] else [])++((bif u.DL then [IntKind.wrap .u8 c.DL] else [])++((bif u.Bj then num 8 c.Bj else [])++((bif u.Mark then num 8 c.Mark else [])++((bif u.Bv then num 8 c.Bv else [])++((bif u.Version then [IntKind.wrap .u8 c.Version] else [])++(bif u.Length then [IntKind.wrap .u8 c.Length] else []))))))))),0):=fun a h=>(Aa _ _).trans (by
  cases hu:u.Map<;>simp(disch:=omega) only[I5,hu,Q,EL,DN,SL,SM]<;>rw[z _ (by first|omega|(simp[EL];omega))]<;>(try simp only[List.append_assoc,List.nil_append]))
 refine(Aa _ _).trans ?_;unfold BD;have hb:((0:Int) != 0)=false:=rfl;cases hu:u.BB<;>simp(disch:=omega) only[I5,hk,hf,hb,hu,ZuW,jT,DN,SL,SM]<;>rw[q _ (by simp[jT])]<;>(try simp only[List.append_assoc,List.nil_append])
theorem n1 (r:Int):num 1 (IntKind.wrap .u64 r)=[IntKind.wrap .u8 r]:=by
 simp only[num,IntKind.wrap_u64,IntKind.wrap_u8];congr 1;omega
theorem xP (c:AO) (u:CE):1<=(BD c u).length/\(BD c u).length<=60/\Bytes (BD c u):=by
 have hl:∀(b:Bool) (l:List Int) (n:Nat),l.length<=n->(bif b then l else []).length<=n:=fun b l n h=>by cases b<;>simp_all
 have hb:∀(b:Bool) (l:List Int),Bytes l->Bytes (bif b then l else []):=fun b l h=>by cases b<;>first|exact h|exact Bytes.nil
 have one:∀x,Bytes [IntKind.wrap .u8 x]:=fun x=>Bytes.cons (r8 _) Bytes.nil;have hu:=hl u.BB (updB c.BB) 9 (by rw[jT];omega);have hm:=hl u.Map (num 5 c.Map) 5 (by rw[EL];omega);have q:=hl u.Ci (num 2 (IntKind.wrap .u64 c.Ci)) 2 (by rw[EL];omega);have hr:=hl u.Bl [IntKind.wrap .u8 c.Bl] 1 (by simp);have z:=hl u.DL [IntKind.wrap .u8 c.DL] 1 (by simp);have hs:=hl u.Bj (num 8 c.Bj) 8 (by rw[EL];omega);have hk:=hl u.Mark (num 8 c.Mark) 8 (by rw[EL];omega);have hf:=hl u.Bv (num 8 c.Bv) 8 (by rw[EL];omega);have hv:=hl u.Version [IntKind.wrap .u8 c.Version] 1 (by simp);have A:=hl u.Length [IntKind.wrap .u8 c.Length] 1 (by simp);unfold BD;refine⟨by simp,?_,?_⟩
 ·simp only[List.length_append,List.length_cons,List.length_nil];omega
 ·exact Bytes.app (one _) (Bytes.app (hb _ _ (((((JQ _ _).app (JQ _ _)).app (JQ _ _)).app (JQ _ _)).app (JQ _ _))) (Bytes.app (hb _ _ (JQ _ _)) (Bytes.app (hb _ _ (JQ _ _)) (Bytes.app (hb _ _ (one _)) (Bytes.app (hb _ _ (one _)) (Bytes.app (hb _ _ (JQ _ _)) (Bytes.app (hb _ _ (JQ _ _)) (Bytes.app (hb _ _ (JQ _ _)) (Bytes.app (hb _ _ (one _)) (hb _ _ (one _)))))))))))
theorem jQ (xs:List Int) (h:xs.length<=100000):KT xs=some ⟨xs⟩:=by
 have:=VO;have:=Uy;unfold KT;rw[if_pos ⟨by omega,by omega⟩]
theorem ZfA (x:Aq) (h:x.Payload.length<=100000):uA x=some x:=(Aa _ _).trans (by
 simp only[Zd2,DN,jQ _ h,Option.bind_some,beq_self_eq_true,cond_true])
def Yr (q:List Aq):Prop:=q.length<=1000/\∀x∈q,x.Payload.length<=100000
theorem ZF6 (q:List Aq) (C:Yr q) (a z:BQ):∀d i:Nat,i+d=q.length->AU iP (.b1 (q.take i) q (q.length:Int) (i:Int) a z)=some ⟨{ a with Az:=q }⟩:=by
 intro d;induction d with
 | zero=>
  intro i D;have e:i=q.length:=by omega
  subst e;refine(Aa _ _).trans ?_;simp only[iP,Int.lt_irrefl,DN,SL,SM];rw[List.take_length]
 | succ d F=>
  intro i D;refine(Aa _ _).trans ?_;have A:i<q.length:=by omega
  have hl:(q.take i).length=i:=by rw[List.length_take];omega
  have hx:=C.2 q[i] (List.getElem_mem A);have:=C.1;simp(disch:=omega) only[iP,A,ZfA _ hx,hl,DN,SL,SM];have:=F (i+1) (by omega);rw[List.take_succ_eq_append_getElem A]at this;exact this
theorem v_own (a:BQ) (q:Yr a.Az):Z3T a=some ⟨a⟩:=(Aa _ _).trans (by
 have z:decide ((0:Int)<=(0:Int)/\(0:Int)<=((a.Az.length:Nat):Int)/\a.Az.length*32<=lim/\((a.Az.length:Nat):Int)<=((maxLen:Nat):Int))=true:=by
  have:=VO;have:=Uy;have:=q.1;exact decide_eq_true ⟨by omega,by omega,by omega,by omega⟩
 simp only[iP,DN,Int.toNat_natCast,z,cond_true,beq_self_eq_true,List.length_nil,Bool.and_self];exact ZF6 a.Az q a _ a.Az.length 0 (by omega))
def lab (st:ByteArray):List Int:=st.data.toList.map fun b=>(b.toNat:Int)
theorem ZgB (st:ByteArray):YZ U 5 st=true:=List.all_eq_true.2 fun b _=>rfl
theorem Zdi (st:ByteArray):Ko U 5 st=lab st:=by
 unfold Ko lab;induction st.data.toList with
 | nil=>rfl
 | cons b l q=>exact congrArg (List.cons ((b.toNat:Nat):Int)) q
theorem ZeC (st:ByteArray):Bytes (lab st):=fun x hx=>by
 obtain⟨b,_,rfl⟩:=List.mem_map.1 hx;have:b.toNat<256:=b.toNat_lt;omega
theorem ZgP (st:ByteArray):(lab st).length=st.size:=by rw[lab,List.length_map,Array.length_toList];rfl
theorem Zf3 (l:List Int) (n:Nat):Bytes (l.flatMap (num n)):=Bytes.flat _ _ fun x _=>JQ n x
theorem ZdQ:Bytes [0]:=Bytes.cons ⟨by decide,by decide⟩ Bytes.nil
noncomputable def xJ (k:Int) (st:ByteArray) (q:List Int):Int:=Ti k (lab st++[0]++q.flatMap (num 8))
theorem Zsj (k:Int) (st:ByteArray) (q:List Int) (hs:st.size<=1000) (hp:∀x∈q,E5 x) (hl:q.length<=100):Z24 k st q=some (xJ k st q):=(Aa _ _).trans (by
 have z:=Z2C (num 8) 8 q fun x _=>EL 8 x;have A:=ZgP st;simp only[Zbv,ZgB,Zdi,Zgo q hp hl,DN,SL,SM];rw[kX _ (by simp[z,A];omega) (by simp)];simp only[Option.bind_some,List.flatten_cons,List.flatten_nil,List.append_nil];rw[ZhS k _ ((ZeC st).app (ZdQ.app (Zf3 q 8))) (by simp[z,A];omega)];rw[xJ,List.append_assoc];rfl)
theorem ZsX (k:Int) (hk:E5 k) (st:ByteArray) (q:List Int) (hs:st.size<=1000) (hp:∀x∈q,E5 x) (hl:q.length<=100):rZ k st q=some (xJ k st q):=(Aa _ _).trans (by
 have z:=Z2C (num 8) 8 q fun x _=>EL 8 x;have A:=ZgP st;simp(disch:=omega) only[XK,ZgB,Zdi,DN,SL,SM];have:=wQ (fun s i=>AU XK (.b1 k q s i)) q (num 8) (fun s=>Uz k s) 5000 (fun i s C hs=>(Aa _ _).trans (by
   have hx:=hp q[i] (List.getElem_mem C);rw[EL]at hs;have D:MG 8 q[i]=some ⟨num 8 q[i]⟩:=lI 8 (by decide) _ hx;simp(disch:=omega) only[XK,C,D,EL,DN,SL,SM]))
  (fun s=>(Aa _ _).trans (by
   simp only[XK,Int.lt_irrefl,DN,SL,SM];cases Uz k s<;>rfl)) (lab st++[0]) (by rw[List.length_append,List.length_cons,List.length_nil,z,A];omega)
 refine this.trans ?_;rw[ZeM k hk _ (((ZeC st).app ZdQ).app (Zf3 q 8)) (by simp[z,A];omega)];rfl)
noncomputable def Tj (k s:Int):Nat->List Int
 | 0=>[]
 | i+1=>Tj k s i++num 8 (OO k (IntKind.wrap .u64 (s+i)))
theorem xC (k s:Int) (i:Nat):(Tj k s i).length=8*i:=by
 induction i with
 | zero=>rfl
 | succ i q=>rw[Tj,List.length_append,q,EL];omega
noncomputable def Z4T (k q:Int) (n:Nat):List Int:=(Tj k (OO k q) ((n+7) / 8)).take n
theorem Z4y (x:Int) (h:E5 x):Um [x]=some (num 8 x):=by
 rw[Zgo [x] (fun y q=>by rw[List.mem_singleton.1 q];exact h) (by simp)];simp
theorem Zq8 (k s:Int) (n:Nat) (D:n<=100000):∀d i:Nat,i+d=(n+7) / 8->AU dI (.b1 k n s (Tj k s i) i)=some ((Tj k s ((n+7) / 8)).take n):=by
 intro d;induction d with
 | zero=>
  intro i A;obtain rfl:i=(n+7) / 8:=by omega
  have hl:=xC k s ((n+7) / 8);refine(Aa _ _).trans ?_;have z:decide ((n:Int)<=((8*((n+7) / 8):Nat):Int))=true:=decide_eq_true (by omega);simp(disch:=omega) only[dI,hl,z,List.drop_zero,Nat.sub_zero,DN,SL,SM]
 | succ d C=>
  intro i A;have hl:=xC k s i;refine(Aa _ _).trans ?_;have q:8*i<n:=by omega
  simp(disch:=omega) only[dI,hl,q,YT,Z4y _ (xM _ _),EL,DN,SL,SM];rw[wu64 (n:=(i:Int)+1) (by omega) (by omega)];exact C (i+1) (by omega)
theorem Zsh (k q:Int) (n:Nat) (z:n<=100000):Z2i k q n=some (Z4T k q n):=(Aa _ _).trans (by
 have e:AQ ((n:Int)+8)=((n+8:Nat):Int):=by rw[Dy (by omega) (by omega)];simp
 have h:decide ((0:Int)<=0/\(0:Int)<=((n+8:Nat):Int)/\Int.toNat ((n+8:Nat):Int)*1<=lim/\((n+8:Nat):Int)<=(↑maxLen:Int))=true:=
  decide_eq_true ⟨by decide,by omega,by rw[Int.toNat_natCast];exact Nat.le_trans (by omega) VO,by exact_mod_cast Nat.le_trans (show n+8<=1000000000 by omega) Uy⟩
 simp only[dI,DN,YT,Option.bind_some,e];rw[h];exact Zq8 k _ n z ((n+7) / 8) 0 (by omega))
theorem Zqh (k:Int) (hk:E5 k) (s:Int) (n:Nat) (I:n<=100000):∀d i:Nat,i+d=(n+7) / 8->AU XF (.b1 k n (Tj k s i) s i)=some ((Tj k s ((n+7) / 8)).take n):=by
 intro d;induction d with
 | zero=>
  intro i F;obtain rfl:i=(n+7) / 8:=by omega
  have hl:=xC k s ((n+7) / 8);refine(Aa _ _).trans ?_;have z:decide ((n:Int)<=((8*((n+7) / 8):Nat):Int))=true:=decide_eq_true (by omega);have A:decide (0+n<=8*((n+7) / 8))=true:=decide_eq_true (by omega);have C:decide (n<=8*((n+7) / 8))=true:=decide_eq_true (by omega);simp(disch:=omega) only[XF,hl,z,A,C,List.drop_zero,Nat.sub_zero,DN,SL,SM]
 | succ d G=>
  intro i F;have hl:=xC k s i;refine(Aa _ _).trans ?_;have q:8*i<n:=by omega
  have hm:=xM k (IntKind.wrap .u64 (s+i));have D:MG 8 (OO k (IntKind.wrap .u64 (s+i)))=some ⟨num 8 (OO k (IntKind.wrap .u64 (s+i)))⟩:=lI 8 (by decide) _ hm;simp(disch:=omega) only[XF,hl,q,wu64 (n:=(i:Int)) (by omega) (by omega),wC k _ hk (Zi _),D,EL,DN,SL,SM];exact G (i+1) (by omega)
theorem Zsa (k:Int) (hk:E5 k) (q:Int) (hx:E5 q) (n:Nat) (z:n<=100000):dG k q n=some (Z4T k q n):=(Aa _ _).trans (by
 simp only[XF,wC k _ hk hx,DN,SL,SM];exact Zqh k hk _ n z ((n+7) / 8) 0 (by omega))
def Ed (a b:List Int):List Int:=List.zipWith (bits .xor .u8) a b
theorem Z4u (a b:List Int):(Ed a b).length=min a.length b.length:=List.length_zipWith
theorem ZDu (ys:List Int) (i:Nat) (h:i<ys.length):(ys.take i++List.replicate (ys.length - i) (0:Int)).set i ys[i]=ys.take (i+1)++List.replicate (ys.length - (i+1)) 0:=by
 rw[show ys.length - i=(ys.length - (i+1))+1 by omega,List.replicate_succ,List.set_append_right _ _ (by rw[List.length_take];omega),List.length_take,Nat.min_eq_left (by omega),Nat.sub_self,List.set_cons_zero,List.take_add_one,List.getElem?_eq_getElem h,List.append_assoc];rfl
theorem ZqW (a b:List Int) (G:a.length<=100000):∀d i:Nat,i+d=(Ed a b).length->AU cO (.b1 a b ((Ed a b).take i++List.replicate ((Ed a b).length - i) 0) (Ed a b).length i)=some (Ed a b):=by
 have hx:=Z4u a b;intro d;induction d with
 | zero=>
  intro i C;obtain rfl:i=(Ed a b).length:=by omega
  refine(Aa _ _).trans ?_;simp only[cO,Int.lt_irrefl,Nat.sub_self,List.replicate_zero,List.append_nil,List.take_length,DN,SL,SM]
 | succ d D=>
  intro i C;have q:i<(Ed a b).length:=by omega
  have z:i<a.length:=by omega
  have A:i<b.length:=by omega
  have hs:=ZDu (Ed a b) i q;have hb:bits .xor .u8 a[i] b[i]=(Ed a b)[i]:=by simp only[Ed,List.getElem_zipWith]
  have hl:((Ed a b).take i++List.replicate ((Ed a b).length - i) (0:Int)).length=(Ed a b).length:=by
   rw[List.length_append,List.length_take,List.length_replicate];omega
  rw[<- D (i+1) (by omega)];refine(Aa _ _).trans ?_;generalize F:(Ed a b).take i++List.replicate ((Ed a b).length - i) (0:Int)=O at *;simp(disch:=omega) only[cO,DN,Int.natCast_nonneg,Int.ofNat_lt,q,z,A,Int.toNat_natCast,List.getElem?_eq_getElem,Option.bind_some,decide_true,cond_true,true_and,hl,beq_self_eq_true,Bool.true_and,Nat.zero_le,List.length_set,Su,hb,hs]
theorem ZsP (a b:List Int) (q:a.length<=100000):Z2b a b=some (Ed a b):=(Aa _ _).trans (by
 have hx:=Z4u a b;have e:(if (↑b.length:Int)<(↑a.length:Int) then (↑b.length:Int) else (↑a.length:Int))=((Ed a b).length:Int):=by rw[hx];split<;>omega
 have h:decide (0<=((Ed a b).length:Int)/\((Ed a b).length:Int)<=((Ed a b).length:Int)/\(Ed a b).length*1<=lim/\((Ed a b).length:Int)<=(↑maxLen:Int))=true:=
  decide_eq_true ⟨by omega,by omega,Nat.le_trans (by omega) VO,by exact_mod_cast Nat.le_trans (show (Ed a b).length<=1000000000 by omega) Uy⟩
 simp only[cO,DN,e,Int.toNat_natCast,h,cond_true,beq_self_eq_true,List.length_replicate];exact ZqW a b q _ 0 (Nat.zero_add _))
theorem ZxP (a b:List Int) (G:a.length<=100000):∀d i:Nat,i+d=(Ed a b).length->AU VB (.b1 a b ((Ed a b).take i) i)=some ⟨Ed a b⟩:=by
 have hx:=Z4u a b;intro d;induction d with
 | zero=>
  intro i C;obtain rfl:i=(Ed a b).length:=by omega
  refine(Aa _ _).trans ?_;simp only[VB,DN,SL,SM]
  by_cases q:(Ed a b).length<a.length
  ·have z:¬(Ed a b).length<b.length:=by omega
   simp only[q,z,decide_true,decide_false,cond_true,cond_false,List.take_length]
  ·simp only[q,decide_false,cond_false,List.take_length]
 | succ d F=>
  intro i C;have A:i<(Ed a b).length:=by omega
  have q:i<a.length:=by omega
  have z:i<b.length:=by omega
  have hb:bits .xor .u8 a[i] b[i]=(Ed a b)[i]:=by simp only[Ed,List.getElem_zipWith]
  have hl:((Ed a b).take i).length=i:=by rw[List.length_take];omega
  have D:(Ed a b).take i++[(Ed a b)[i]]=(Ed a b).take (i+1):=by rw[List.take_add_one,List.getElem?_eq_getElem A];rfl
  refine(Aa _ _).trans ?_;simp(disch:=omega) only[VB,q,z,DN,SL,SM];refine(Aa _ _).trans ?_;simp(disch:=omega) only[VB,q,z,hl,hb,D,DN,SL,SM];exact F (i+1) (by omega)
theorem ZAA (a b:List Int) (q:a.length<=100000):iM a b=some ⟨Ed a b⟩:=(Aa _ _).trans (by
 simp only[VB,DN,SL,SM];exact ZxP a b q _ 0 (Nat.zero_add _))
noncomputable def Oe (k q:Int) (z c:List Int):List Int:=num 4 (Ti k (num 8 q++num 4 z.length++z++c))
theorem Zff (k q:Int) (z c:List Int):(Oe k q z c).length=4:=EL _ _
theorem Zxi (k q:Int) (hx:E5 q) (z c:List Int) (A:Bytes z) (hc:Bytes c) (hl:z.length<=1000) (hm:c.length<=50000):Z3c k q z c=some (Oe k q z c):=(Aa _ _).trans (by
 simp only[ZdP,KI (n:=(z.length:Int)) (by omega) (by omega),wu64 (n:=(z.length:Int)) (by omega) (by omega),Z4y q hx,DN,SL,SM];rw[ZhR [⟨4,z.length⟩] (fun f hf=>by
  rw[List.mem_singleton.1 hf];exact⟨show (1:Int)<=4 by decide,show (4:Int)<=8 by decide,show (0:Int)<=z.length by omega,show (z.length:Int)<4294967296 by omega⟩) (by simp[VS,EL]) (by simp)]
 simp only[Option.bind_some,List.flatMap_cons,List.flatMap_nil,List.append_nil,VS,show Int.toNat 4=4 from rfl];rw[kX _ (by simp[EL];omega) (by simp)];simp only[Option.bind_some,List.flatten_cons,List.flatten_nil,List.append_nil];rw[ZhS k _ ((JQ _ _).app ((JQ _ _).app (A.app hc))) (by simp[EL];omega)];simp only[Option.bind_some];rw[Z4y _ (Zgf _ _)];simp only[Option.bind_some,EL];rw[show decide ((0:Int)<=4/\(4:Int)<=((8:Nat):Int))=true from rfl];simp only[cond_true,List.drop_zero,show Int.toNat 4 - 0=4 from rfl,ZBy 4 8 _ (by decide),Oe,List.append_assoc])
theorem ZzE (k:Int) (hk:E5 k) (q:Int) (hx:E5 q) (z c:List Int) (D:Bytes z) (hc:Bytes c) (hl:z.length<=1000) (hm:c.length<=50000):iV k q z c=some (Oe k q z c):=(Aa _ _).trans (by
 have C:MG 8 q=some ⟨num 8 q⟩:=lI 8 (by decide) _ hx;have A:MG 4 z.length=some ⟨num 4 z.length⟩:=lI 4 (by decide) _ ⟨by omega,by omega⟩;have F:tV q z c=some ⟨num 8 q++num 4 z.length++z++c⟩:=(Aa _ _).trans (by
  simp(disch:=omega) only[Z2H,wu64 (n:=(z.length:Int)) (by omega) (by omega),C,A,EL,DN,SL,SM])
 have G:MG 4 (Ti k (num 8 q++num 4 z.length++z++c))=some ⟨num 4 (Ti k (num 8 q++num 4 z.length++z++c))⟩:=lI 4 (by decide) _ (Zgf _ _);simp only[Z3A,F,DN,SL,SM];rw[ZeM k hk _ ((((JQ _ _).app (JQ _ _)).app D).app hc) (by simp[EL];omega)];simp only[Option.bind_some,G,Oe])
def bt (a:Int):Bool:=bif a==0 then true else a==1
theorem ZGe (a:Int):bQ a=some (bt a):=(Aa _ _).trans (by
 simp only[Zah,DN];unfold bt;cases (a==0)<;>rfl)
theorem ZFJ (a:Int):Xl a=some (bt a):=(Aa _ _).trans (by
 simp only[Z3S,DN];unfold bt;cases (a==0)<;>rfl)
def Yn (x:Aq):Int:=bif decide (x.BP<1) then 12 else bif decide (x.BP>3) then 12 else bif (((x.Payload.length:Nat):Int)==0)&&(x.BP != 1) then 1 else bif decide (((x.Payload.length:Nat):Int)>255) then 4 else 0
def MZ (p:BI):Int:=bif !(bt p.SN) then 5 else bif !(bt p.DX) then 5 else bif !(bt p.MD) then 5 else Yn p.Ap
theorem ZCC (n:Int):AU Rz (.b3 n)=some (bif decide (n>255) then 4 else 0):=(Aa _ _).trans (by
 simp only[Rz,DN];cases decide (n>255)<;>rfl)
theorem ZE8 (p:BI):AU Rz (.b1 ((p.Ap.Payload.length:Nat):Int) p)=some (Yn p.Ap):=(Aa _ _).trans (by
 have q:AU Rz (.b2 ((p.Ap.Payload.length:Nat):Int) p)=some (bif (((p.Ap.Payload.length:Nat):Int)==0)&&(p.Ap.BP != 1) then 1 else bif decide (((p.Ap.Payload.length:Nat):Int)>255) then 4 else 0):=(Aa _ _).trans (by
  simp only[Rz,DN,ZCC];cases (((p.Ap.Payload.length:Nat):Int)==0)<;>cases (p.Ap.BP != 1)<;>rfl)
 simp only[Rz,DN,q];unfold Yn;cases decide (p.Ap.BP<1)<;>cases decide (p.Ap.BP>3)<;>rfl)
theorem Z9k (p:BI):qB p=some (MZ p):=(Aa _ _).trans (by
 simp only[Rz,DN,ZGe,Option.bind_some,ZE8];unfold MZ;cases bt p.SN<;>cases bt p.DX<;>cases bt p.MD<;>rfl)
theorem ZmW (x:Aq):pM x=some (Yn x):=(Aa _ _).trans (by
 have z:AU U1 (.b2 x)=some (bif decide (((x.Payload.length:Nat):Int)>255) then 4 else 0):=(Aa _ _).trans (by
  simp only[U1,DN];cases decide (((x.Payload.length:Nat):Int)>255)<;>rfl)
 have q:AU U1 (.b1 x)=some (bif (((x.Payload.length:Nat):Int)==0)&&(x.BP != 1) then 1 else bif decide (((x.Payload.length:Nat):Int)>255) then 4 else 0):=(Aa _ _).trans (by
  simp only[U1,DN,z];cases (((x.Payload.length:Nat):Int)==0)<;>cases (x.BP != 1)<;>rfl)
 simp only[U1,DN,q];unfold Yn;cases decide (x.BP<1)<;>cases decide (x.BP>3)<;>rfl)
theorem ZcK (p:BI):QV p=some (MZ p):=(Aa _ _).trans (by
 have q:AU fA (.b1 p)=some (Yn p.Ap):=(Aa _ _).trans (by
  simp only[fA,DN,ZmW,Option.bind_some])
 simp only[fA,DN,ZFJ,Option.bind_some,q];unfold MZ;cases bt p.SN<;>cases bt p.DX<;>cases bt p.MD<;>rfl)
theorem Z4l (x:Aq):Wq x=some (bif x.BP==1 then ((x.Payload.length:Nat):Int)==0 else false):=(Aa _ _).trans (by
 simp only[Z9u,DN];cases (x.BP==1)<;>rfl)
theorem sZ (x:Aq):PK x=some (bif x.BP==1 then ((x.Payload.length:Nat):Int)==0 else false):=(Aa _ _).trans (by
 simp only[Z2B,DN];cases (x.BP==1)<;>rfl)
theorem Zhw (p:BI) (l:List Int):qN p l=some ({ p with Ap:=⟨p.Ap.BP,l⟩ }:BI):=(Aa _ _).trans rfl
theorem ZwE (p:BI) (l:List Int):iC p l=some ({ p with Ap:=⟨p.Ap.BP,l⟩ }:BI):=(Aa _ _).trans rfl
theorem ZDk (s:Bc):Z1k s=some (bif s.BK==1 then (1,0) else (0,1)):=(Aa _ _).trans (by
 simp only[Z97,DN];cases (s.BK==1)<;>rfl)
theorem ZBe (c:Int) (w:SG) (d:Int):Z0R c w d=some (bits .xor .u64 w.Bj (IntKind.wrap .u64 ((IntKind.wrap .u64 ((2:Int)*c))+d))):=(Aa _ _).trans rfl
theorem ZED (s:Bc) (d:Int):Z16 s d=some ⟨s,d⟩:=(Aa _ _).trans rfl
noncomputable def Ib (c:AO):List Int:=((Ug c).getD ([],0)).1
theorem Zg7 (x y:Nat):(x ^^^ y) / 2=x / 2 ^^^ y / 2:=by
 apply Nat.eq_of_testBit_eq;intro i;rw[Nat.testBit_xor];simp only[Nat.testBit_div_two];rw[Nat.testBit_xor]
theorem ZEK (x y:Nat):(x ^^^ y) % 2=(x % 2+y % 2) % 2:=by
 have h:=Nat.xor_mod_two_pow (a:=x) (b:=y) (n:=1);rw[Nat.pow_one]at h;rw[h];rcases Nat.mod_two_eq_zero_or_one x with hx|hx<;>rcases Nat.mod_two_eq_zero_or_one y with hy|hy<;>simp only[hx,hy]<;>rfl
def Jq (x:Nat):Nat:=if x % 2=1 then x / 2 ^^^ 14311424 else x / 2
theorem Zez (x y:Nat):Jq (x ^^^ y)=Jq x ^^^ Jq y:=by
 unfold Jq;rw[Zg7,ZEK];rcases Nat.mod_two_eq_zero_or_one x with hx|hx<;>rcases Nat.mod_two_eq_zero_or_one y with hy|hy<;>simp only[hx,hy]<;>simp
 ·rw[Nat.xor_assoc]
 ·rw[Nat.xor_assoc,Nat.xor_assoc,Nat.xor_comm (y / 2)]
 ·rw[Nat.xor_assoc,Nat.xor_comm 14311424,Nat.xor_assoc,Nat.xor_self,Nat.xor_zero]
theorem ZeI (x:Nat):Jq (2*x)=x:=by
 unfold Jq;rw[if_neg (by omega)];omega
def step4 (x:Nat):Nat:=Jq (Jq (Jq (Jq x)))
theorem ZAq (x y:Nat):step4 (x ^^^ y)=step4 x ^^^ step4 y:=by
 unfold step4;simp only[Zez]
theorem ZC5 (x:Nat):step4 (16*x)=x:=by
 unfold step4;rw[show 16*x=2*(2*(2*(2*x))) by omega];simp only[ZeI]
theorem ZEm (x:Nat):16*(x / 16) ^^^ x % 16=x:=by
 apply Nat.eq_of_testBit_eq;intro i;rw[Nat.testBit_xor,show 16=2 ^ 4 from rfl,Nat.testBit_two_pow_mul,Nat.testBit_mod_two_pow,Nat.testBit_div_two_pow]
 by_cases h:4<=i
 ·have e:i - 4+4=i:=by omega
  simp[h,e,Nat.not_lt.2 h]
 ·simp[h,Nat.lt_of_not_le h]
theorem ZyU (x:Nat):step4 x=x / 16 ^^^ step4 (x % 16):=by
 conv=>lhs;rw[<- ZEm x,ZAq,ZC5]
def fb (r b:Nat):Nat:=Jq (r ^^^ b)
theorem fb4 (r v:Nat) (hv:v<16):fb (fb (fb (fb r (v % 2)) (v / 2 % 2)) (v / 4 % 2)) (v / 8 % 2)=step4 (r ^^^ v):=by
 have hs:∀z b,Jq z ^^^ b=Jq (z ^^^ 2*b):=fun z b=>by rw[Zez,ZeI]
 unfold fb step4;rw[hs,hs,hs,hs,hs,hs];have:v % 2 ^^^ 2*(v / 2 % 2) ^^^ 2*(2*(v / 4 % 2)) ^^^ 2*(2*(2*(v / 8 % 2)))=v:=by
  have:∀v:Fin 16,v.val % 2 ^^^ 2*(v.val / 2 % 2) ^^^ 2*(2*(v.val / 4 % 2)) ^^^ 2*(2*(2*(v.val / 8 % 2)))=v.val:=by decide +kernel
  exact this ⟨v,hv⟩
 rw[Nat.xor_assoc,Nat.xor_assoc,Nat.xor_assoc,<- Nat.xor_assoc (v % 2),<- Nat.xor_assoc (v % 2 ^^^ _),this]
theorem jP (x:Nat) (h:x<16777216):Jq x<16777216:=by
 unfold Jq;split
 ·exact Nat.xor_lt_two_pow (n:=24) (by omega) (by decide)
 ·omega
theorem Z4h {x y:Nat} (h:x<16777216) (q : y<16777216):x ^^^ y<16777216:=Nat.xor_lt_two_pow (n:=24) h q
theorem Et {x b:Nat} (h:x<16777216) (hb:b<2):fb x b<16777216:=jP _ (Z4h h (by omega))
def RU (r v:Nat):Nat:=fb (fb (fb (fb (fb (fb (fb (fb r (v % 2)) (v / 2 % 2)) (v / 4 % 2)) (v / 8 % 2)) (v / 16 % 2)) (v / 32 % 2)) (v / 64 % 2)) (v / 128 % 2)
theorem ZGS (r v:Nat) (hv:v<256):RU r v=step4 (step4 (r ^^^ v % 16) ^^^ v / 16):=by
 have q:=fb4 r (v % 16) (by omega);have z:=fb4 (step4 (r ^^^ v % 16)) (v / 16) (by omega);rw[show v % 16 % 2=v % 2 by omega,show v % 16 / 2 % 2=v / 2 % 2 by omega,show v % 16 / 4 % 2=v / 4 % 2 by omega,show v % 16 / 8 % 2=v / 8 % 2 by omega]at q;rw[<- q,show v / 16 / 2=v / 32 by omega,show v / 16 / 4=v / 64 by omega,show v / 16 / 8=v / 128 by omega,q]at z;unfold RU;rw[q];exact z
theorem ZE9 (t:Nat) (h:t<16):([0,1788928,3577856,3003392,7155712,7764992,6006784,4252672,14311424,12659712,15529984,16233472,12013568,11279360,8505344,10126336]:List Int)[t]? = some ((step4 t:Nat):Int):=by
 have:∀t:Fin 16,([0,1788928,3577856,3003392,7155712,7764992,6006784,4252672,14311424,12659712,15529984,16233472,12013568,11279360,8505344,10126336]:List Int)[t.val]? = some ((step4 t.val:Nat):Int):=by decide +kernel
 exact this ⟨t,h⟩
theorem and15 (a:Nat) (h:a<4294967296):bits .and .u32 (a:Int) 15=((a % 16:Nat):Int):=by
 rw[show (15:Int)=((15:Nat):Int) from rfl,(bits_nat .u32 32 (by decide) wraps_u32 a 15 h (by decide)).1,show 15=2 ^ 4 - 1 from rfl,Nat.and_two_pow_sub_one_eq_mod]
theorem andM (a:Nat) (h:a<4294967296):bits .and .u32 (a:Int) 16777215=((a % 16777216:Nat):Int):=by
 rw[show (16777215:Int)=((16777215:Nat):Int) from rfl,(bits_nat .u32 32 (by decide) wraps_u32 a 16777215 h (by decide)).1,show 16777215=2 ^ 24 - 1 from rfl,Nat.and_two_pow_sub_one_eq_mod]
theorem zQ (a j:Nat):Int.fdiv (a:Int) (2 ^ j)=((a / 2 ^ j:Nat):Int):=by
 rw[show (2:Int) ^ j=((2 ^ j:Nat):Int) by simp];exact(Int.ofNat_fdiv a (2 ^ j)).symm
theorem Zg1 (x:Nat) (h:x<16777216):step4 x<16777216:=jP _ (jP _ (jP _ (jP _ h)))
theorem tab (r w:Nat) (hw:w<16):r / 16 ^^^ step4 ((r ^^^ w) % 16)=step4 (r ^^^ w):=by
 conv=>rhs;rw[ZyU]
 congr 1;have:=Nat.xor_div_two_pow (a:=r) (b:=w) (n:=4);rw[show (2:Nat) ^ 4=16 from rfl,Nat.div_eq_of_lt hw,Nat.xor_zero]at this;exact this.symm
theorem ZDN (r w:Nat):(r ^^^ w) % 16=(r ^^^ w % 16) % 16:=by
 have q:=Nat.xor_mod_two_pow (a:=r) (b:=w) (n:=4);have z:=Nat.xor_mod_two_pow (a:=r) (b:=w % 16) (n:=4);rw[show (2:Nat) ^ 4=16 from rfl]at q z;rw[q,z,Nat.mod_mod]
theorem half (n w:Nat) (q:n<16777216) (hw:w<256) :
  bits .and .u32 (bits .xor .u32 (n:Int) (w:Int)) 15=(((n ^^^ w) % 16:Nat):Int)/\bits .xor .u32 (Int.fdiv (n:Int) (2 ^ 4)) ((step4 ((n ^^^ w) % 16):Nat):Int)=((step4 (n ^^^ w % 16):Nat):Int):=by
 have hx:n ^^^ w<16777216:=Z4h q (by omega);refine⟨?_,?_⟩
 ·rw[u32_xor_nat n w (by omega) (by omega),and15 _ (by omega)]
 ·have:=Zg1 ((n ^^^ w) % 16) (by omega);rw[zQ,u32_xor_nat _ _ (by omega) (by omega),show n / 2 ^ 4=n / 16 from rfl,ZDN,tab n (w % 16) (by omega)]
theorem in16 (t:Nat) (h:t<16):decide ((0:Int)<=(t:Int)/\(t:Int)<16)=true:=decide_eq_true (by omega)
theorem Zwh (n v:Nat) (q:n<16777216) (hv:v<256):uK (n:Int) (v:Int)=some ((RU n v:Nat):Int):=(Aa _ _).trans (by
 obtain⟨z,A⟩:=half n v q hv;have hl:n ^^^ v % 16<16777216:=Z4h q (by omega);obtain⟨b1,b2⟩:=half (step4 (n ^^^ v % 16)) (v / 16) (Zg1 _ hl) (by omega);have C:=KI (n:=(v:Int)) (by omega) (by omega);have D:=KI (n:=((v / 16:Nat):Int)) (by omega) (by omega);have F:Int.fdiv (v:Int) (2 ^ 4)=((v / 16:Nat):Int):=zQ v 4;rw[show v / 16 % 16=v / 16 by omega,<- ZGS n v hv]at b2;simp only[Zef,DN,C,D,F,z,in16 _ (Nat.mod_lt _ (by decide)),cond_true,Int.toNat_natCast,ZE9 _ (Nat.mod_lt _ (by decide)),Option.bind_some,A,b1,b2])
theorem Z51 {n v:Nat} (z:n<16777216):RU n v<16777216:=by
 have q:∀x,x % 2<2:=fun x=>Nat.mod_lt _ (by decide);exact Et (Et (Et (Et (Et (Et (Et (Et z (q _)) (q _)) (q _)) (q _)) (q _)) (q _)) (q _)) (q _)
def RD (r:Nat) (xs:List Int):Nat:=xs.foldl (fun r x=>RU r x.toNat) r
theorem ZgD {r:Nat} (xs:List Int) (h:r<16777216):RD r xs<16777216:=by
 induction xs generalizing r with
 | nil=>exact h
 | cons x xs q=>exact q (Z51 h)
theorem ZxS (n:Nat) (x:Int) (q:n<16777216) (hx:0<=x/\x<256):uK (n:Int) x=some ((RU n x.toNat:Nat):Int):=by
 have:=Zwh n x.toNat q (by omega);rwa[Int.toNat_of_nonneg hx.1]at this
theorem ZAw (r:Int) (hr:0<=r/\r<4294967296) (xs:List Int) (hb:Bytes xs) (hl:xs.length<=100000):Z3L r xs=some ((RD (r.toNat % 16777216) xs:Nat):Int):=(Aa _ _).trans (by
 obtain⟨n,rfl⟩:=Int.eq_ofNat_of_zero_le hr.1;simp only[jD,DN,andM n (by omega),Int.toNat_natCast];exact(wG (fun(s:Nat) i=>AU jD (.b1 (s:Int) xs (xs.length:Int) i)) xs (fun r x=>RU r x.toNat) (fun s=>some (s:Int)) (fun _ s=>s<16777216)
  (fun i s q hs=>⟨(Aa _ _).trans (by
   simp(disch:=omega) only[jD,q,ZxS s _ hs (hb.get i q),DN,SL,SM]),Z51 hs⟩)
  (fun s _=>(Aa _ _).trans (by simp only[jD,Int.lt_irrefl,DN,SL,SM])) _ (Nat.mod_lt _ (by decide))).1)
theorem Zx4 (n b:Nat) (J:n<16777216) (hb:b<2):uU (n:Int) (b:Int)=some ((fb n b:Nat):Int):=(Aa _ _).trans (by
 have z:Int.tmod (n:Int) 2=((n % 2:Nat):Int):=(Int.ofNat_tmod n 2).symm;have A:Int.tdiv (n:Int) 2=((n / 2:Nat):Int):=(Int.ofNat_tdiv n 2).symm;have q:(n ^^^ b) % 2=n % 2 ^^^ b:=by
  have:=Nat.xor_mod_two_pow (a:=n) (b:=b) (n:=1);rwa[Nat.pow_one,Nat.mod_eq_of_lt hb]at this
 have C:(n ^^^ b) / 2=n / 2:=by rw[Zg7,Nat.div_eq_of_lt hb,Nat.xor_zero]
 have I:n % 2 ^^^ b<2:=by rw[<- q];omega
 have D:=u32_xor_nat (n % 2) b (by omega) (by omega);have F:=u32_xor_nat (n / 2) 14311424 (by omega) (by decide);have G:=KI (n:=((n / 2:Nat):Int)) (by omega) (by omega);simp only[Z3m,DN,z,A,D,G];unfold fb Jq;rw[q,C]
 by_cases h:n % 2 ^^^ b=1
 ·rw[if_pos h,h];exact congrArg some F
 ·rw[if_neg h,show n % 2 ^^^ b=0 by omega];rfl)
theorem SX (xs:List Int) (s:Nat) (i:Int) (v k:Nat) (hs:s<16777216) (hv:v<4294967296) (hk:k<8) :
  AU N7 (.b2 xs (s:Int) i (v:Int) (k:Int))=AU N7 (.b2 xs ((fb s (v % 2):Nat):Int) i ((v / 2:Nat):Int) ((k+1:Nat):Int)):=(Aa _ _).trans (by
 have z:Int.tmod (v:Int) 2=((v % 2:Nat):Int):=(Int.ofNat_tmod v 2).symm;have A:Int.tdiv (v:Int) 2=((v / 2:Nat):Int):=(Int.ofNat_tdiv v 2).symm;have C:=KI (n:=((v / 2:Nat):Int)) (by omega) (by omega);have D:decide ((k:Int)<8)=true:=decide_eq_true (by omega);have q:=Su k (by omega);simp only[N7,DN,z,A,C,D,q,Zx4 s (v % 2) hs (Nat.mod_lt _ (by decide)),cond_true,Option.bind_some])
theorem Zyl (xs:List Int) (s i v:Nat) (hs:s<16777216) (hv:v<256) (A:i<1000000) :
  AU N7 (.b2 xs (s:Int) (i:Int) (v:Int) ((0:Nat):Int))=AU N7 (.b1 xs ((RU s v:Nat):Int) ((i+1:Nat):Int)):=by
 have q:∀x,x % 2<2:=fun x=>Nat.mod_lt _ (by decide);rw[SX _ _ _ _ _ hs (by omega) (by omega),SX _ _ _ _ _ (Et hs (q _)) (by omega) (by omega),SX _ _ _ _ _ (Et (Et hs (q _)) (q _)) (by omega) (by omega),
  SX _ _ _ _ _ (Et (Et (Et hs (q _)) (q _)) (q _)) (by omega) (by omega),SX _ _ _ _ _ (Et (Et (Et (Et hs (q _)) (q _)) (q _)) (q _)) (by omega) (by omega),
  SX _ _ _ _ _ (Et (Et (Et (Et (Et hs (q _)) (q _)) (q _)) (q _)) (q _)) (by omega) (by omega),
  SX _ _ _ _ _ (Et (Et (Et (Et (Et (Et hs (q _)) (q _)) (q _)) (q _)) (q _)) (q _)) (by omega) (by omega),
  SX _ _ _ _ _ (Et (Et (Et (Et (Et (Et (Et hs (q _)) (q _)) (q _)) (q _)) (q _)) (q _)) (q _)) (by omega) (by omega)]
 have e:∀a b:Nat,v / a / b=v / (a*b):=fun a b=>Nat.div_div_eq_div_mul v a b;simp only[e,Nat.reduceMul,Nat.reduceAdd];refine(Aa _ _).trans ?_;have z:decide (((8:Nat):Int)<8)=false:=by decide
 simp only[N7,DN,z,cond_false,Su i (by omega)];rfl
theorem ZyY (r:Int) (hr:0<=r/\r<4294967296) (xs:List Int) (hb:Bytes xs) (hl:xs.length<=100000):iQ r xs=some ((RD (r.toNat % 16777216) xs:Nat):Int):=(Aa _ _).trans (by
 obtain⟨n,rfl⟩:=Int.eq_ofNat_of_zero_le hr.1;have z:Int.tmod (n:Int) 16777216=((n % 16777216:Nat):Int):=(Int.ofNat_tmod n 16777216).symm;simp only[N7,DN,z,Int.toNat_natCast];exact(wG (fun(s:Nat) i=>AU N7 (.b1 xs (s:Int) i)) xs (fun r x=>RU r x.toNat) (fun s=>some (s:Int)) (fun _ s=>s<16777216)
  (fun i s q hs=>⟨(Aa _ _).trans (by
   have hx:=hb.get i q;have h:=Zyl xs s i xs[i].toNat hs (by omega) (by omega);rw[Int.toNat_of_nonneg hx.1]at h;simp(disch:=omega) only[N7,q,KI hx.1 (by omega),DN,SL,SM];exact h),Z51 hs⟩)
  (fun s _=>(Aa _ _).trans (by simp only[N7,Int.lt_irrefl,DN,SL,SM])) _ (Nat.mod_lt _ (by decide))).1)
def MP (n:Nat):List Int:=[((n % 256:Nat):Int),((n / 256 % 256:Nat):Int),((n / 65536:Nat):Int)]
theorem ZtU {n:Nat} (h:n<16777216):Bytes (MP n):=by
 unfold MP;exact Bytes.cons (by omega) (Bytes.cons (by omega) (Bytes.cons (by omega) Bytes.nil))
def RN (r:Int) (xs:List Int):List Int:=xs++MP (RD (r.toNat % 16777216) xs)
theorem Zra (r:Int) (hr:0<=r/\r<4294967296) (xs:List Int) (hb:Bytes xs) (hl:xs.length<=100000):Z1T r xs=some (RN r xs):=(Aa _ _).trans (by
 have hs:=ZgD (r:=r.toNat % 16777216) xs (Nat.mod_lt _ (by decide));have hc:KT xs=some ⟨xs⟩:=by
  have:=VO;have:=Uy;unfold KT;rw[if_pos ⟨by omega,by omega⟩]
 unfold RN;generalize q:RD (r.toNat % 16777216) xs=n at hs;have e:[IntKind.wrap .u8 (n:Int),IntKind.wrap .u8 (Int.fdiv (n:Int) (2 ^ 8)),IntKind.wrap .u8 (Int.fdiv (n:Int) (2 ^ 16))]=MP n:=by
  rw[zQ,zQ,IntKind.wrap_u8,IntKind.wrap_u8,IntKind.wrap_u8];unfold MP;simp only[List.cons.injEq,and_true];refine⟨by omega,by omega,by omega⟩
 simp(disch:=omega) only[ZbI,ZAw r hr xs hb hl,q,hc,e,DN,SL,SM,MP])
theorem bytes5:∀xs:List Int,Le.bytesOf (xs.map (U.enc 5))=some (xs.map fun x=>UInt8.ofNat x.toNat)
 | []=>rfl
 | x::xs=>by
  show (match Le.byteOf (U.enc 5 x),Le.bytesOf (xs.map (U.enc 5)) with|some b,some q=>some (b::q)|_,_=>none)=_;rw[bytes5 xs];rfl
theorem Y7 (xs:List Int) (h:xs.length<=1000000):Jm U 5 xs=true:=by
 unfold Jm;rw[bytes5];exact decide_eq_true (by rw[List.length_map];exact Nat.le_trans (Nat.le_trans h (by decide)) (by decide:1000000000<=maxLen))
theorem Zh3:∀{xs ys:List Int},Bytes xs->Bytes ys->xs.map (fun x=>UInt8.ofNat x.toNat)=ys.map (fun x=>UInt8.ofNat x.toNat)->xs=ys
 | [],[],_,_,_=>rfl
 | [],y::ys,_,_,h=>by cases h
 | x::xs,[],_,_,h=>by cases h
 | x::xs,y::ys,hx,q,h=>by
  simp only[List.map_cons,List.cons.injEq]at h;obtain⟨A,C⟩:=h;have a:=hx x List.mem_cons_self;have b:=q y List.mem_cons_self;have e:=congrArg UInt8.toNat A;simp only[UInt8.toNat_ofNat']at e;rw[Nat.mod_eq_of_lt (by omega),Nat.mod_eq_of_lt (by omega)]at e;rw[Zh3 (fun z hz=>hx z (List.mem_cons_of_mem _ hz)) (fun z hz=>q z (List.mem_cons_of_mem _ hz)) C];congr 1;omega
theorem str_eq {xs ys:List Int} (hx:Bytes xs) (A:Bytes ys):((strOf U 5 xs).toList==(strOf U 5 ys).toList)=decide (xs=ys):=by
 have e:∀z:List Int,strOf U 5 z=⟨(z.map fun x=>UInt8.ofNat x.toNat).toArray⟩:=fun z=>by unfold strOf;rw[bytes5];rfl
 have k:∀l:List UInt8,(ByteArray.mk l.toArray).toList=l:=fun l=>by simp
 rw[e,e,k,k]
 by_cases h:xs=ys
 ·rw[h];simp
 ·rw[decide_eq_false h,beq_eq_false_iff_ne];exact fun q=>h (Zh3 hx A q)
theorem v_EqB (xs ys:List Int) (hl:xs.length<=100000) (C:xs.length=ys.length):Z09 xs ys=some (decide (xs=ys)):=(Aa _ _).trans (by
 have key:∀d i:Nat,i+d=xs.length->AU WZ (.b1 xs ys (xs.length:Nat) i)=some (decide (xs.drop i=ys.drop i)):=by
  intro d;induction d with
  | zero=>
   intro i D;obtain rfl:i=xs.length:=by omega
   refine(Aa _ _).trans ?_;rw[show ys.drop xs.length=[] by rw[C,List.drop_length],List.drop_length];simp(disch:=omega) only[WZ,Int.lt_irrefl,DN,SL,SM]
  | succ d G=>
   intro i D;have z:i<xs.length:=by omega
   have A:i<ys.length:=by omega
   refine(Aa _ _).trans ?_;have e:decide (xs.drop i=ys.drop i)=(decide (xs[i]=ys[i])&&decide (xs.drop (i+1)=ys.drop (i+1))):=by
    rw[List.drop_eq_getElem_cons z,List.drop_eq_getElem_cons A,<- Bool.decide_and,decide_eq_decide,List.cons.injEq]
   rw[e]
   by_cases q:xs[i]=ys[i]
   ·rw[decide_eq_true q,Bool.true_and,<- G (i+1) (by omega)];simp(disch:=omega) only[WZ,z,A,q,bne_self_eq_false,DN,SL,SM]
   ·have F:(xs[i] != ys[i])=true:=by simpa using q
    rw[decide_eq_false q,Bool.false_and];simp(disch:=omega) only[WZ,z,A,F,DN,SL,SM]
 simp only[WZ,C,bne_self_eq_false,DN,SL,SM];have:=key xs.length 0 (by omega);rw[List.drop_zero,List.drop_zero]at this;rw[<- C];exact this)
def Vq (r:Int) (b:List Int):List Int×Int:=bif decide (b.length<3) then ([],3) else bif decide (RN r (b.take (b.length - 3))=b) then (b.take (b.length - 3),0) else ([],10)
theorem ZfJ {b:List Int} (h:¬b.length<3) (hl:b.length<=90000) :
  AQ ((b.length:Int) - 3)=((b.length - 3:Nat):Int)/\(b.drop 0).take (b.length - 3 - 0)=b.take (b.length - 3)/\decide (((b.length - 3:Nat):Int)<=(b.length:Int))=true/\decide (((b.length - 3:Nat):Int)<0)=false/\(b.drop (b.length - 3)).take (b.length - (b.length - 3))=b.drop (b.length - 3):=by
 refine⟨by rw[Dy (by omega) (by omega)];omega,by rw[Nat.sub_zero,List.drop_zero],decide_eq_true (by omega),decide_eq_false (by omega),List.take_of_length_le (by rw[List.length_drop];omega)⟩
theorem ZuP (r:Int) (hr:0<=r/\r<4294967296) (b:List Int) (hb:Bytes b) (hl:b.length<=90000):Z2r r b=some (Vq r b):=(Aa _ _).trans (by
 unfold Vq
 by_cases h:b.length<3
 ·have e:decide (AQ ((b.length:Int) - 3)<0)=true:=decide_eq_true (by rw[Dy (by omega) (by omega)];omega);rw[decide_eq_true h];simp only[Z2q,e,DN,SL,SM]
 ·obtain⟨q,z,A,C,_⟩:=ZfJ h hl;rw[decide_eq_false h];have hc:=Zra r hr (b.take (b.length - 3)) (hb.take _) (by rw[List.length_take];omega);have hx:(RN r (b.take (b.length - 3))).length=b.length:=by simp[RN,MP];omega
  simp only[Z2q,q,z,A,C,hc,v_EqB _ b (by rw[hx];omega) hx,jQ (b.take (b.length - 3)) (by rw[List.length_take];omega),DN,SL,SM];cases decide (RN r (b.take (b.length - 3))=b)<;>rfl)
theorem Zw3 (n:Nat) (h:n<16777216):gV (n:Int)=some (MP n):=(Aa _ _).trans (by
 have q:Int.tmod (n:Int) 256=((n % 256:Nat):Int):=(Int.ofNat_tmod n 256).symm;have z:Int.tdiv (n:Int) 256=((n / 256:Nat):Int):=(Int.ofNat_tdiv n 256).symm;have A:Int.tdiv (n:Int) 65536=((n / 65536:Nat):Int):=(Int.ofNat_tdiv n 65536).symm;have C:=KI (n:=((n / 256:Nat):Int)) (by omega) (by omega);have D:=KI (n:=((n / 65536:Nat):Int)) (by omega) (by omega);have F:Int.tmod ((n / 256:Nat):Int) 256=((n / 256 % 256:Nat):Int):=(Int.ofNat_tmod _ 256).symm;simp only[Z3f,q,z,A,C,D,F,Tz (n:=((n % 256:Nat):Int)) (by omega) (by omega),Tz (n:=((n / 256 % 256:Nat):Int)) (by omega) (by omega),Tz (n:=((n / 65536:Nat):Int)) (by omega) (by omega),DN,SL,SM];rfl)
theorem Zv0 (r:Int) (hr:0<=r/\r<4294967296) (b:List Int) (hb:Bytes b) (hl:b.length<=90000):uB r b=some (Vq r b):=(Aa _ _).trans (by
 unfold Vq
 by_cases h:b.length<3
 ·have e:decide (AQ ((b.length:Int) - 3)<0)=true:=decide_eq_true (by rw[Dy (by omega) (by omega)];omega);rw[decide_eq_true h];simp only[tJ,e,DN,SL,SM]
 ·obtain⟨D,F,G,I,J⟩:=ZfJ h hl;rw[decide_eq_false h];have hs:=ZgD (r:=r.toNat % 16777216) (b.take (b.length - 3)) (Nat.mod_lt _ (by decide));have M:(RN r (b.take (b.length - 3))=b)↔(b.drop (b.length - 3)=MP (RD (r.toNat % 16777216) (b.take (b.length - 3)))):=by
   have q:=List.take_append_drop (b.length - 3) b;unfold RN;constructor
   ·intro A;have:b.take (b.length - 3)++MP (RD (r.toNat % 16777216) (b.take (b.length - 3)))=b.take (b.length - 3)++b.drop (b.length - 3):=A.trans q.symm;exact(List.append_cancel_left this).symm
   ·intro A;rw[<- A];exact q
  have N:(MP (RD (r.toNat % 16777216) (b.take (b.length - 3)))).length<=1000000:=by unfold MP;simp
  have C:(b.take (b.length - 3)).length<=90000:=by rw[List.length_take];omega
  have k1:decide ((b.take (b.length - 3)).length*1<=lim)=true:=decide_eq_true (Nat.le_trans (by omega) (by decide:90000<=lim));have k2:decide ((b.take (b.length - 3)).length<=maxLen)=true:=decide_eq_true (Nat.le_trans C (by decide:90000<=maxLen));have z:=ZyY r hr (b.take (b.length - 3)) (hb.take _) (by omega);simp only[tJ,D,F,G,I,J,z,Zw3 _ hs,Y7 (b.drop (b.length - 3)) (by rw[List.length_drop];omega),Y7 _ N,str_eq (hb.drop (b.length - 3)) (ZtU hs),k1,k2,List.nil_append,DN,SL,SM];rw[decide_eq_decide.2 M];cases decide (b.drop (b.length - 3)=MP (RD (r.toNat % 16777216) (b.take (b.length - 3))))<;>rfl)
def Vs (a:BQ):BQ:=bif !a.Empty&&decide (((a.Az.length:Nat):Int)>0) then { a with SN:=AQ ((1:Int) - a.SN),Az:=a.Az.drop 1,Di:=AQ (a.Di+1),Open:=false,Empty:=false } else { a with SN:=AQ ((1:Int) - a.SN),Open:=false,Empty:=false }
def JK (p:BI) (k:Bool) (a:BQ):BQ×Aq×Bool×Bool:=
 bif p.SN==a.DX then bif !(bif p.Ap.BP==1 then ((p.Ap.Payload.length:Nat):Int)==0 else false) then ({ a with DX:=AQ ((1:Int) - a.DX),Taken:=AQ (a.Taken+1) },p.Ap,true,k) else ({ a with DX:=AQ ((1:Int) - a.DX) },⟨0,[]⟩,false,k) else (a,⟨0,[]⟩,false,k)
def LH (a:BQ) (p:BI):BQ×Aq×Bool×Bool:=
 bif MZ p != 0 then (a,⟨0,[]⟩,false,false) else bif a.Open then bif p.DX != a.SN then JK p true (Vs a) else JK p false a else JK p false a
theorem drop1 {q:List Aq}:(q.drop 1).take (q.length - 1)=q.drop 1:=List.take_of_length_le (by rw[List.length_drop];exact Nat.le_refl _)
theorem ZFB (a:BQ) (p:BI) (I:Yr a.Az) (hp:p.Ap.Payload.length<=100000):Z3d a p=some (LH a p):=(Aa _ _).trans (by
 have b2:∀(k:Bool) (x z:BQ),AU O4 (.b2 false k x p z ⟨0,[]⟩)=some (JK p k x):=fun k x z=>(Aa _ _).trans (by
  have b5:∀u v w y t,AU O4 (.b5 u v w y t)=some (w,t,u,v):=fun u v w y t=>(Aa _ _).trans rfl;simp only[O4,DN,b5,Z4l,ZfA _ hp,Option.bind_some];unfold JK;cases (p.SN==x.DX)
  ·rfl
  ·cases (bif p.Ap.BP==1 then ((p.Ap.Payload.length:Nat):Int)==0 else false)<;>rfl)
 have b4:∀(x z:BQ),AU O4 (.b4 false true x p z ⟨0,[]⟩)=some (JK p true { x with Open:=false,Empty:=false }):=fun x z=>(Aa _ _).trans (by
  simp only[O4,DN,b2])
 have b3:∀(x z:BQ),0<x.Az.length->AU O4 (.b3 false true (x.Az.length:Nat) x p z ⟨0,[]⟩)=some (JK p true { x with Az:=x.Az.drop 1,Di:=AQ (x.Di+1),Open:=false,Empty:=false }):=fun x z hx=>(Aa _ _).trans (by
  have D:decide ((0:Int)<=(x.Az.length:Nat)/\((x.Az.length:Nat):Int)<=((x.Az.length:Nat):Int))=true:=decide_eq_true ⟨by omega,by omega⟩;have F:decide ((0:Int)<=(1:Int)/\(1:Int)<=((Int.toNat ((x.Az.length:Nat):Int):Nat):Int))=true:=decide_eq_true ⟨by decide,by omega⟩;have G:(x.Az.drop (Int.toNat 1)).take (Int.toNat ((x.Az.length:Nat):Int) - Int.toNat 1)=x.Az.drop 1:=drop1;simp only[O4,DN,D,F,G,b4,beq_self_eq_true,cond_true])
 have b1:∀z,AU O4 (.b1 false a p z ⟨0,[]⟩)=some (JK p true (Vs a)):=fun z=>(Aa _ _).trans (by
  rcases a with ⟨M,J,q,op,em,C,N⟩
  simp only[O4,DN,b4];unfold Vs;cases em
  ·cases A:decide (((q.length:Nat):Int)>0)
   ·simp only[A];rfl
   ·have:=b3 ⟨AQ ((1:Int) - M),J,q,op,false,C,N⟩ z (by have:=of_decide_eq_true A;exact Int.ofNat_lt.1 this);simp only[A];exact this
  ·rfl)
 simp only[O4,DN,v_own a I,Z9k,Option.bind_some,b1,b2];unfold LH;cases (MZ p != 0)
 ·cases a.Open
  ·rfl
  ·cases (p.DX != a.SN)<;>rfl
 ·rfl)
theorem Zxy (a:BQ) (p:BI) (I:Yr a.Az):vK a p=some (LH a p):=(Aa _ _).trans (by
 have hb:bJ p.Ap=some (bif p.Ap.BP==1 then ((p.Ap.Payload.length:Nat):Int)==0 else false):=(Aa _ _).trans (by
  simp only[Z1G,DN];cases (p.Ap.BP==1)<;>rfl)
 have b2:∀(k:Bool) (x z:BQ),AU NV (.b2 k x p z ⟨0,[]⟩)=some (JK p k x):=fun k x z=>(Aa _ _).trans (by
  have b5:∀u v w y,AU NV (.b5 u v w y)=some (v,⟨0,[]⟩,false,u):=fun u v w y=>(Aa _ _).trans rfl;simp only[NV,DN,b5,hb,Option.bind_some];unfold JK;cases (p.SN==x.DX)
  ·rfl
  ·cases (bif p.Ap.BP==1 then ((p.Ap.Payload.length:Nat):Int)==0 else false)<;>rfl)
 have b4:∀(x z:BQ),AU NV (.b4 true x p z ⟨0,[]⟩)=some (JK p true { x with Open:=false,Empty:=false }):=fun x z=>(Aa _ _).trans (by
  simp only[NV,DN,b2])
 have b3:∀(x z:BQ),x.Az=a.Az->0<x.Az.length->AU NV (.b3 true x p z ⟨0,[]⟩)=some (JK p true { x with Az:=x.Az.drop 1,Di:=AQ (x.Di+1),Open:=false,Empty:=false }):=fun x z G hx=>(Aa _ _).trans (by
  have D:decide ((0:Int)<=(1:Int)/\(1:Int)<=((x.Az.length:Nat):Int))=true:=decide_eq_true ⟨by decide,by omega⟩;have F:(x.Az.drop (Int.toNat 1)).take (x.Az.length - Int.toNat 1)=x.Az.drop 1:=drop1;have hl:(x.Az.drop 1).length<=1000:=by rw[List.length_drop,G];have:=I.1;omega
  have k1:decide ((0+(x.Az.drop 1).length)*32<=lim)=true:=decide_eq_true (Nat.le_trans (show _<=90000 by omega) (by decide:90000<=lim));have k2:decide (0+(x.Az.drop 1).length<=maxLen)=true:=decide_eq_true (Nat.le_trans (show _<=90000 by omega) (by decide:90000<=maxLen));simp only[NV,DN,D,F,k1,k2,b4,List.nil_append,cond_true,Bool.and_self])
 have b1:∀z,AU NV (.b1 a p z ⟨0,[]⟩)=some (JK p true (Vs a)):=fun z=>(Aa _ _).trans (by
  rcases a with ⟨M,J,q,op,em,C,N⟩
  simp only[NV,DN,b4];unfold Vs;cases em
  ·cases A:decide (((q.length:Nat):Int)>0)
   ·simp only[A];rfl
   ·have:=b3 ⟨AQ ((1:Int) - M),J,q,op,false,C,N⟩ z rfl (by have:=of_decide_eq_true A;exact Int.ofNat_lt.1 this);simp only[A];exact this
  ·rfl)
 simp only[NV,DN,ZcK,Option.bind_some,b1,b2];unfold LH;cases (MZ p != 0)
 ·cases a.Open
  ·rfl
  ·cases (p.DX != a.SN)<;>rfl
 ·rfl)
def Ve (s:Bc) (t r:Bool):Bc:={ s with Tx:=bif t&&s.Gf then IntKind.wrap .u64 (s.Tx+1) else s.Tx,Rx:=bif r&&s.Eg then IntKind.wrap .u64 (s.Rx+1) else s.Rx }
theorem yP (s:Bc) (t r:Bool):qQ s t r=some (Ve s t r)/\gG s t r=some (Ve s t r):=by
 unfold Ve;have b2:∀(x z:Bc),AU Wu (.b2 r x z)=some { x with Rx:=bif r&&x.Eg then IntKind.wrap .u64 (x.Rx+1) else x.Rx }:=fun x z=>(Aa _ _).trans (by
  have b3:∀u v,AU Wu (.b3 u v)=some { u with Rx:=IntKind.wrap .u64 (u.Rx+1) }:=fun u v=>(Aa _ _).trans rfl;simp only[Wu,DN,b3];rcases x with ⟨x1,C,D,q,A,F,G⟩
  cases r
  ·rfl
  ·cases A<;>rfl)
 have I:∀(x z:Bc),AU Uo (.b2 r x z)=some { x with Rx:=bif r&&x.Eg then IntKind.wrap .u64 (x.Rx+1) else x.Rx }:=fun x z=>(Aa _ _).trans (by
  have b3:∀u v,AU Uo (.b3 u v)=some { u with Rx:=IntKind.wrap .u64 (u.Rx+1) }:=fun u v=>(Aa _ _).trans rfl;simp only[Uo,DN,b3];rcases x with ⟨x1,C,D,q,A,F,G⟩
  cases r
  ·rfl
  ·cases A<;>rfl)
 constructor
 ·refine(Aa _ _).trans ?_;have b1:∀(x z:Bc),AU Wu (.b1 r x z)=_:=fun x z=>(Aa _ _).trans (b2 { x with Tx:=IntKind.wrap .u64 (x.Tx+1) } z);simp only[Wu,DN,b1,b2];rcases s with ⟨x1,C,D,q,A,F,G⟩
  cases t
  ·rfl
  ·cases q<;>rfl
 ·refine(Aa _ _).trans ?_;have b1:∀(x z:Bc),AU Uo (.b1 r x z)=_:=fun x z=>(Aa _ _).trans (I { x with Tx:=IntKind.wrap .u64 (x.Tx+1) } z);simp only[Uo,DN,b1,I];rcases s with ⟨x1,C,D,q,A,F,G⟩
  cases t
  ·rfl
  ·cases q<;>rfl
theorem xY (s:Bc) (t r:Bool):qM s t r=some { s with Gf:=t,Eg:=r }/\X3 s t r=some { s with Gf:=t,Eg:=r }:=⟨(Aa _ _).trans rfl,(Aa _ _).trans rfl⟩
theorem Fe {a:Int} (h : -9223372036854775808<=a) (q : a<=9223372036854775807):AQ a=a:=by
 simp only[AQ,IntKind.wrap,IntKind.signed,IntKind.bits];simp;omega
theorem wu16C (n:Int):IntKind.wrap .u16 n=n % 65536:=by simp[IntKind.wrap,IntKind.bits,IntKind.signed]
theorem fe {P R:Type} {T:P->Tr U (R⊕P)} {p:P} {o:Option R} (h:(T p).den (Hz (AU T))=o):AU T p=o:=(Aa T p).trans h
theorem MR {n:Nat}:(n==n)=true:=beq_self_eq_true n
def r16 (n:Int):Prop:=0<=n/\n<65536
theorem ZqM (a b:Int) (q:r16 a) (hb:r16 b):qY a b=vJ a b:=by
 obtain⟨A,C⟩:=q;obtain⟨D,F⟩:=hb;have hw:∀n:Int,IntKind.wrap .i16 n=(n+32768) % 65536 - 32768:=fun n=>by simp[IntKind.wrap,IntKind.bits,IntKind.signed];omega
 refine(fe ?_).trans (fe rfl).symm;have b1:∀n:Int,-100000<=n->n<=100000->AU gJ (.b1 n)=some (if n>32767 then n - 65536 else n):=fun n G z =>fe (by
  simp only[gJ,DN]
  by_cases h:n>32767
  ·rw[decide_eq_true h,if_pos h,Fe (by omega) (by omega)];rfl
  ·rw[decide_eq_false h,if_neg h];rfl)
 simp only[Zai,gJ,DN];rw[Fe (a:=a) (by omega) (by omega),Fe (a:=b) (by omega) (by omega),Fe (a:=b - a) (by omega) (by omega),hw,wu16C,Fe (by omega) (by omega)]
 by_cases h:b - a < -32768
 ·rw[decide_eq_true h,Fe (by omega) (by omega)];simp only[cond_true];rw[b1 _ (by omega) (by omega)];congr 1;split<;>omega
 ·rw[decide_eq_false h];simp only[cond_false];rw[b1 _ (by omega) (by omega)];congr 1;split<;>omega
theorem Zos (a b:Int) (q:r16 a) (hb:r16 b):qJ a b=dP a b:=by
 refine(fe ?_).trans (fe rfl).symm;simp only[Z1m,Z20,DN,ZqM b a hb q]
theorem Zob (a:Int) (c:BG) (h:r16 a) (hc:r16 c.Ci):qI a c=dX a c:=by
 have hb:AU Uc (.b1 a c)=AU eQ (.b1 a c):=by
  refine(fe ?_).trans (fe rfl).symm;simp only[Uc,eQ,DN,Zos _ _ h hc]
 refine(fe ?_).trans (fe rfl).symm;simp only[Uc,eQ,DN,hb]
theorem Z4s (l:List BG) (h:l.length<=1000000):Ro l=some ⟨l⟩:=if_pos ⟨by rw[show lim=140737488355328 from rfl];omega,by rw[show maxLen=9223372036854775807 from rfl];omega⟩
theorem ZBC (l:List AO) (h:l.length<=1000000):UF l=some ⟨l⟩:=if_pos ⟨by rw[show lim=140737488355328 from rfl];omega,by rw[show maxLen=9223372036854775807 from rfl];omega⟩
theorem QI {n k:Nat} (h:n<=2000000) (hk:k<=1000):(decide (n*k<=lim)&&decide (n<=maxLen))=true:=by
 rw[show lim=140737488355328 from rfl,show maxLen=9223372036854775807 from rfl];have:n*k<=2000000*1000:=Nat.mul_le_mul h hk;rw[decide_eq_true (by omega),decide_eq_true (by omega)];rfl
theorem Zqf (l:List BG) (a:Int) (c:BG) (hl:l.length<=1) (h:r16 a) (hc:r16 c.Ci):qU l a c=VD l a c:=by
 refine(fe ?_).trans (fe rfl).symm;simp only[Z1J,Z3Y,DN,Zob a c h hc,Z4s l (by omega),MR,cond_true,List.nil_append,Option.bind_some,List.length_nil,Nat.zero_add];rw[QI (by omega) (by decide)];cases dX a c with
 | none=>rfl
 | some e=>
  simp only[Option.bind_some,cond_true];cases q:(e != 0) with
  | true=>rfl
  | false=>
   simp only[cond_false];cases l with
   | nil=>rfl
   | cons x xs=>
    rw[decide_eq_true (show ((x::xs).length:Int)>0 by rw[List.length_cons];omega)];rfl
theorem YH (k:Int):Yw k=some (k==0||k==1)/\QX k=some (k==0||k==1):=by
 constructor<;>(refine(Aa _ _).trans ?_;simp only[Z7P,Z2O,DN];cases (k==0)<;>rfl)
def RF (s:A7) (k:Int):A7:=
 let t:=bif s.Bz==0 then bif s.Own==2 then bif k==2 then { s with Bz:=22 } else s else s else s
 bif (k==0||k==1) then bif t.Own==k then { t with Told:=true } else t else t
theorem Zye (s:A7) (c:AO):uZ s c=some (RF s c.Kind,[]):=(Aa _ _).trans (by
 have b2:∀x z,AU Ut (.b2 x c z)=some (bif (c.Kind==0||c.Kind==1) then bif x.Own==c.Kind then { x with Told:=true } else x else x,[]):=fun x z=>(Aa _ _).trans (by
  have b3:∀u v,AU Ut (.b3 u v)=some ({ u with Told:=true },[]):=fun u v=>(Aa _ _).trans rfl;simp only[Ut,DN,(YH c.Kind).2,Option.bind_some,b3];cases (c.Kind==0||c.Kind==1)
  ·rfl
  ·cases (x.Own==c.Kind)<;>rfl)
 have b1:∀x z,AU Ut (.b1 x c z)=_:=fun x z=>(Aa _ _).trans (b2 { x with Bz:=22 } z);simp only[Ut,DN,b1,b2];unfold RF;cases (s.Bz==0)
 ·rfl
 ·cases (s.Own==2)
  ·rfl
  ·cases (c.Kind==2)<;>rfl)
theorem ZF4 (s:A7) (c:AO) (q:aZ s 0 0=some ⟨⟨s,0,0,[],[]⟩⟩):Z10 s c=some (RF s c.Kind,[]):=(Aa _ _).trans (by
 have b4:∀z (y:BV),AU OZ (.b4 z y)=some (y.AA,[]):=fun z y=>(Aa _ _).trans (by simp only[OZ,DN];rfl);have b2:∀z (y:BV),AU OZ (.b2 c z y)=some (bif (c.Kind==0||c.Kind==1) then bif y.AA.Own==c.Kind then { y.AA with Told:=true } else y.AA else y.AA,[]):=fun z y=>(Aa _ _).trans (by
  have b3:∀u (v:BV),AU OZ (.b3 u v)=some ({ v.AA with Told:=true },[]):=fun u v=>(Aa _ _).trans (by simp only[OZ,DN,b4,Bool.and_self,cond_true]);simp only[OZ,DN,(YH c.Kind).1,Option.bind_some,b3,b4,Bool.and_self,cond_true];cases (c.Kind==0||c.Kind==1)
  ·rfl
  ·cases (y.AA.Own==c.Kind)<;>rfl)
 have b1:∀z (y:BV),AU OZ (.b1 c z y)=AU OZ (.b2 c z { y with AA:={ y.AA with Bz:=22 } }):=fun z y=>(Aa _ _).trans (by simp only[OZ,DN,Bool.and_self,cond_true]);simp only[OZ,DN,q,Option.bind_some,b1,b2,Bool.and_self,cond_true];unfold RF;cases (s.Bz==0)
 ·rfl
 ·cases (s.Own==2)
  ·rfl
  ·cases (c.Kind==2)<;>rfl)
def UA:List Int->List Int->List Int
 | [],_=>[]
 | n::q,b=>val (b.take n.toNat)::UA q (b.drop n.toNat)
def Cf (q:List Int):Nat:=(q.map Int.toNat).sum
theorem ZgM (a b:List Int):Cf (a++b)=Cf a+Cf b:=by simp[Cf]
theorem tk1 (b:List Int) (hb:Bytes b) (out sz:List Int) (n:Int) (m i:Nat) (L:Int) (hm:m<=8) (M:n=m) (J:m<=b.length) (Q:out.length<=1000) (O:i<=1000):∀d j:Nat,j+d=m ->
  AU LX (.b3 b out n (val (b.take j)) sz L i n j)=AU LX (.b2 (b.drop m) (out++[val (b.take m)]) sz L ((i+1:Nat):Int)):=by
 subst M;intro d;induction d with
 | zero=>
  intro j I;obtain rfl:j=m:=by omega
  refine(Aa _ _).trans ?_;have A:decide ((j:Int)<=(b.length:Int))=true:=decide_eq_true (by omega);have F:(b.drop j).take (b.length - j)=b.drop j:=List.take_of_length_le (by rw[List.length_drop];omega);simp(disch:=omega) only[LX,Int.lt_irrefl,A,F,DN,SL,SM]
 | succ d N=>
  intro j I;have C : j<m:=by omega
  have q:j<b.length:=by omega
  have hx:=hb.get j q;have hv:=yZ (hb.take j);have D:=YJ (hb.take (j+1)) (by rw[List.length_take];omega);have e:val (b.take (j+1))=val (b.take j)+256 ^ j*b[j]:=by
   rw[List.take_add_one,List.getElem?_eq_getElem q,val_append];simp[val,Nat.min_eq_left (show j<=b.length by omega)]
  rw[List.length_take,Nat.min_eq_left (by omega)]at hv;rw[e]at D;have z:0<=256 ^ j*b[j]:=Int.mul_nonneg (Int.le_of_lt (by exact_mod_cast Nat.pow_pos (by decide))) hx.1;rw[<- N (j+1) (by omega)];refine(Aa _ _).trans ?_;have A:decide (0<=AQ (8*(j:Int)))=true:=decide_eq_true (by rw[Dy (by omega) (by omega)];omega);have G:bits .or .u64 (val (b.take j)) (IntKind.wrap .u64 ((IntKind.wrap .u64 (b[j]))*2 ^ (min (Int.toNat (AQ ((8:Int)*(j:Int)))) (IntKind.bits .u64))))=val (b.take (j+1)):=by
   rw[Dy (by omega) (by omega),show Int.toNat (8*(j:Int))=8*j by omega,show min (8*j) (IntKind.bits .u64)=8*j from Nat.min_eq_left (by show 8*j<=64;omega),Vk,wu64 (n:=b[j]) (by omega) (by omega),Int.mul_comm b[j],wu64 z (by omega),e];refine Z5w .u64 64 (by decide) wraps_u64 (8*j) (by omega) _ _ z ?_ (by show _<(18446744073709551616:Int);omega) hv.1 ?_
   ·rw[Vk];exact Int.mul_emod_right _ _
   ·rw[Vk];exact hv.2
  simp(disch:=omega) only[LX,C,q,A,G,DN,SL,SM]
theorem tk2 (sz:List Int):∀(ns done b out:List Int),sz=done++ns->Bytes b->(∀n∈ns,1<=n/\n<=8)->Cf ns<=b.length->out.length=done.length->sz.length<=100->b.length<=100000 ->
  AU LX (.b2 b out sz sz.length done.length)=some (out++UA ns b,b.drop (Cf ns),0):=by
 intro ns;induction ns with
 | nil=>
  intro done b out hz hb D hs G hl z;refine(Aa _ _).trans ?_;rw[List.append_nil]at hz;subst hz;simp only[LX,Int.lt_irrefl,DN,SL,SM];rw[kX [b] (by simpa using z) (by simp)];simp[UA,Cf]
 | cons n ns I=>
  intro done b out hz hb D hs G hl z;have C:done.length<sz.length:=by rw[hz];simp
  have A:sz[done.length]=n:=by simp[hz]
  have J:=D n List.mem_cons_self;have q:Cf (n::ns)=n.toNat+Cf ns:=by simp[Cf]
  rw[q]at hs;refine(Aa _ _).trans ?_;simp(disch:=omega) only[LX,C,A,DN,SL,SM];have:=tk1 b hb out sz n n.toNat done.length sz.length (by omega) (by omega) (by omega) (by omega) (by omega) n.toNat 0 (by omega);simp only[List.take_zero,val]at this;refine this.trans ?_;have F:=I (done++[n]) (b.drop n.toNat) (out++[val (b.take n.toNat)]) (by simp[hz]) (hb.drop _) (fun m hm=>D m (List.mem_cons_of_mem _ hm)) (by rw[List.length_drop];omega) (by simp[G]) hl (by rw[List.length_drop];omega);rw[List.length_append]at F;refine F.trans ?_;rw[q,UA,List.drop_drop,List.append_assoc];rfl
theorem ZgZ (sz b:List Int) (hb:Bytes b) (F:∀n∈sz,1<=n/\n<=8) (hl:sz.length<=100) (D:b.length<=100000):bP b sz=some (if b.length<Cf sz then ([],[],3) else (UA sz b,b.drop (Cf sz),0)):=(Aa _ _).trans (by
 simp only[LX,DN,SL,SM];have C:∀q:List Int,(∀n∈q,1<=n/\n<=8)->Cf q<=8*q.length:=by
  intro q;induction q with
  | nil=>intro _;exact Nat.le_refl _
  | cons n q I=>
   intro h;have z:=h n List.mem_cons_self;have A:=I fun m hm=>h m (List.mem_cons_of_mem _ hm);simp only[Cf,List.map_cons,List.sum_cons,List.length_cons]at A ⊢;omega
 have hs:=C sz F;have key:=wG (fun(s:Int) i=>AU LX (.b1 b sz s sz sz.length i)) sz (fun s x=>s+x) (fun s=>if (b.length:Int)<s then some ([],[],3) else AU LX (.b2 b [] sz sz.length 0))
  (fun i s=>s=Cf (sz.take i)) (fun i s h M=>by
   have z:=F sz[i] (List.getElem_mem h);have e:Cf (sz.take (i+1))=Cf (sz.take i)+sz[i].toNat:=by
    rw[List.take_add_one,List.getElem?_eq_getElem h,ZgM];rfl
   have J:Cf (sz.take (i+1))<=Cf sz:=by
    have A:=ZgM (sz.take (i+1)) (sz.drop (i+1));rw[List.take_append_drop]at A;omega
   refine⟨?_,by omega⟩;refine(Aa _ _).trans ?_;simp(disch:=omega) only[LX,h,Zgd _ z.1 z.2,DN,SL,SM];rw[Dy (by omega) (by omega)])
  (fun s G =>(Aa _ _).trans (by
   simp only[LX,Int.lt_irrefl,DN,SL,SM]
   by_cases hc:(b.length:Int)<s
   ·simp[hc]
   ·simp[hc])) 0 (by simp[Cf])
 rw[key.1,key.2,List.take_length]
 by_cases hc:b.length<Cf sz
 ·rw[if_pos hc,if_pos (by omega)]
 ·rw[if_neg hc,if_neg (by omega)];exact tk2 sz sz [] b [] rfl hb F (by omega) rfl hl D)
def fl (r:List Int) (a n:Nat):Int:=val ((r.drop a).take n)
theorem YW {r:List Int} (h:Bytes r) (a n:Nat):0<=fl r a n/\fl r a n<256 ^ n:=by
 have q:=yZ ((h.drop a).take n);have z:(256:Int) ^ ((r.drop a).take n).length<=256 ^ n:=by
  exact_mod_cast Nat.pow_le_pow_right (by decide:0<256) (by rw[List.length_take];omega)
 exact⟨q.1,Int.lt_of_lt_of_le q.2 z⟩
theorem Vx {r:List Int} {a:Nat} (h:a<r.length):r[a]? = some (fl r a 1):=by
 unfold fl;rw[List.getElem?_eq_getElem h,List.drop_eq_getElem_cons h];show some r[a]=some (r[a]+256*val ((List.drop (a+1) r).take 0));rw[List.take_zero];show some r[a]=some (r[a]+256*0);rw[Int.mul_zero,Int.add_zero]
theorem ZCk (b:List Int) (hb:Bytes b) (a n:Nat) (N:n<=8) (h:a+n<=b.length) (hl:b.length<=100000):GX b (a:Int) (n:Int)=some (fl b a n):=(Aa _ _).trans (by
 have key:∀i:Nat,i<=n->AU X8 (.b1 b a (val ((b.drop (a+i)).take (n - i))) ((i:Int) - 1))=some (fl b a n):=by
  intro i;induction i with
  | zero=>
   intro _;refine(Aa _ _).trans ?_;simp only[X8,DN,show decide ((((0:Nat):Int) - 1)>=0)=false from rfl,cond_false,Nat.add_zero,Nat.sub_zero];rfl
  | succ i J=>
   intro M;have hx:=hb.get (a+i) (by omega);have A:AQ ((a:Int)+(((i+1:Nat):Int) - 1))=((a+i:Nat):Int):=by rw[Dy (by omega) (by omega)];omega
   have C:AQ ((((i+1:Nat):Int) - 1) - 1)=(i:Int) - 1:=by rw[Dy (by omega) (by omega)];omega
   have D:decide ((((i+1:Nat):Int) - 1)>=0)=true:=decide_eq_true (by omega);have F:decide ((0:Int)<=((a+i:Nat):Int)/\((a+i:Nat):Int)<(b.length:Int))=true:=decide_eq_true ⟨by omega,by omega⟩;have G:(b[Int.toNat ((a+i:Nat):Int)]? : Option Int)=some b[a+i]:=by rw[Int.toNat_natCast];exact List.getElem?_eq_getElem _
   have q:val ((b.drop (a+i)).take (n - i))=b[a+i]+256*val ((b.drop (a+(i+1))).take (n - (i+1))):=by
    rw[List.drop_eq_getElem_cons (show a+i<b.length by omega),show n - i=(n - (i+1))+1 by omega,List.take_succ_cons];rfl
   have hv:=YJ ((hb.drop (a+i)).take (n - i)) (by rw[List.length_take];omega);have hw:=YJ ((hb.drop (a+(i+1))).take (n - (i+1))) (by rw[List.length_take];omega);rw[q]at hv;have I:IntKind.wrap .u64 ((IntKind.wrap .u64 (val ((b.drop (a+(i+1))).take (n - (i+1)))*256))+(IntKind.wrap .u64 b[a+i]))=val ((b.drop (a+i)).take (n - i)):=by
    rw[wu64 (n:=b[a+i]) (by omega) (by omega),wu64 (n:=_*256) (by omega) (by omega),wu64 (by omega) (by omega),q];omega
   refine(Aa _ _).trans ?_;simp only[X8,DN,A,C,D,F,G,I,Option.bind_some,cond_true];exact J (by omega)
 have z:AQ ((n:Int) - 1)=(n:Int) - 1:=Dy (by omega) (by omega);have:=key n (Nat.le_refl _);rw[Nat.sub_self,List.take_zero]at this;simp only[X8,DN,z];exact this)
theorem nm (k:Int) (r:List Int) (hb:Bytes (k::r)) (a n:Nat) (q:n<=8) (h:a+n<=r.length) (hl:r.length<=90000):GX (k::r) ((a:Int)+1) (n:Int)=some (fl r a n):=by
 have:=ZCk (k::r) hb (a+1) n q (by simp only[List.length_cons];omega) (by simp only[List.length_cons];omega);rw[show ((a+1:Nat):Int)=(a:Int)+1 by omega]at this;exact this
end Go.Proofs.YtjodhcdmhobmoaaGreatDoor
