/- A part of it. -/
import Derived.Test.YteinepnbndegdaaGreatBUn
import Derived.Laws.BitsAllLaws
import Derived.Test.YteinepnbndegdaaGreatF3
import Derived.Test.YteinepnbndegdaaGreatBRw
set_option linter.unusedVariables false
set_option linter.unusedSimpArgs false
namespace Go.Proofs.YteinepnbndegdaaGreat
open Go Go.Proofs.YteinepnbndegdaaGreat.Le
set_option maxRecDepth 100000
theorem Ez {n:Int} (h : -9223372036854775808<=n) (h' : n<=9223372036854775807):Ad n=n:=by
 simp only[Ad,IntKind.wrap,IntKind.signed,IntKind.bits];simp;omega
theorem Gi (i:Nat) (h:i<4611686018427387904):Ad ((i:Int)+1)=((i+1:Nat):Int):=by
 rw[Ez (by omega) (by omega)];simp
theorem wu64 {n:Int} (h:0<=n) (h' : n<18446744073709551616):IntKind.wrap .u64 n=n:=by rw[IntKind.wrap_u64];exact Int.emod_eq_of_lt h h'
theorem Js {n:Int} (h:0<=n) (h' : n<4294967296):IntKind.wrap .u32 n=n:=by rw[IntKind.wrap_u32];exact Int.emod_eq_of_lt h h'
theorem Y4 {n:Int} (h:0<=n) (h' : n<65536):IntKind.wrap .u16 n=n:=by rw[IntKind.wrap_u16];exact Int.emod_eq_of_lt h h'
theorem TN {n:Int} (h:0<=n) (h' : n<256):IntKind.wrap .u8 n=n:=by rw[IntKind.wrap_u8];exact Int.emod_eq_of_lt h h'
theorem r64 (n:Int):0<=IntKind.wrap .u64 n/\IntKind.wrap .u64 n<18446744073709551616:=by rw[IntKind.wrap_u64];omega
theorem r32 (n:Int):0<=IntKind.wrap .u32 n/\IntKind.wrap .u32 n<4294967296:=by rw[IntKind.wrap_u32];omega
theorem r8 (n:Int):0<=IntKind.wrap .u8 n/\IntKind.wrap .u8 n<256:=by rw[IntKind.wrap_u8];omega
theorem b64 (o:BinOp) (a b:Int):0<=bits o .u64 a b/\bits o .u64 a b<18446744073709551616:=r64 _
theorem b32 (o:BinOp) (a b:Int):0<=bits o .u32 a b/\bits o .u32 a b<4294967296:=r32 _
theorem b8 (o:BinOp) (a b:Int):0<=bits o .u8 a b/\bits o .u8 a b<256:=r8 _
theorem wraps_u64 (n:Int) (z:0<=n) (C:n<2 ^ 64):IntKind.u64.wrap n=n:=wu64 z C
theorem wraps_u32 (n:Int) (z:0<=n) (C:n<2 ^ 32):IntKind.u32.wrap n=n:=Js z C
theorem Sz (k:IntKind) (j:Nat) (I:j<=k.bits) (J:∀n:Int,0<=n->n<2 ^ j->k.wrap n=n) (i:Nat) (hi:i<=j)
  (x y:Int) (G:0<=y) (Q:y % 2 ^ i=0) (C:y<2 ^ j) (D:0<=x) (M:x<2 ^ i):bits .or k x y=x+y:=by
 have z:x<2 ^ j:=Int.lt_of_lt_of_le M (by exact_mod_cast Nat.pow_le_pow_right (by decide) hi);have h:=bits_join k j I J i y x G Q C D M z;obtain⟨a,rfl⟩:=Int.eq_ofNat_of_zero_le D;obtain⟨b,rfl⟩:=Int.eq_ofNat_of_zero_le G;rw[(bits_nat k j I J b a (by exact_mod_cast C) (by exact_mod_cast z)).2]at h;rw[(bits_nat k j I J a b (by exact_mod_cast z) (by exact_mod_cast C)).2,Nat.or_comm,h,Int.add_comm]
theorem ZtF {i n:Nat} (h:i<n):decide (i<n)=true:=decide_eq_true h
theorem ZqO {i n:Nat} (h:n<=i):decide (i<n)=false:=decide_eq_false (by omega)
theorem YH:1000000000<=lim:=by decide
theorem VD:1000000000<=maxLen:=by decide
theorem Q4 (a b k:Nat) (h:a+b<=1000000) (C:k<=1000):(decide ((a+b)*k<=lim)&&decide (a+b<=maxLen))=true:=by
 have z:(a+b)*k<=1000000000:=Nat.le_trans (Nat.mul_le_mul h C) (by decide);exact Bool.and_eq_true_iff.mpr ⟨decide_eq_true (Nat.le_trans z YH),decide_eq_true (Nat.le_trans (Nat.le_trans h (by decide)) VD)⟩
theorem Zat (a k:Nat) (h:a<=1000000) (z:k<=1000):(decide (a*k<=lim)&&decide (a<=maxLen))=true:=by
 simpa using Q4 0 a k (by simpa using h) z
theorem SL:(∀n:Nat,(0:Int)<=(n:Int))/\(∀n m:Nat,((n:Int)<(m:Int))↔n<m)/\(∀n:Nat,Int.toNat (n:Int)=n) /\
  (∀(α:Type) (l:List α) (i:Nat) (h:i<l.length),l[i]? = some l[i])/\(∀(α:Type) [BEq α] [ReflBEq α] (a:α),(a==a)=true) /\
  (∀a:Bool,(a&&true)=a)/\(∀a:Bool,(true&&a)=a)/\(∀(α:Type) (a b:List α),(a++b).length=a.length+b.length)/\(∀(α:Type) (a:List α),[]++a=a)/\(∀n:Nat,0+n=n) /\
  (∀a b k:Nat,a+b<=1000000->k<=1000->(decide ((a+b)*k<=lim)&&decide (a+b<=maxLen))=true)/\(∀a k:Nat,a<=1000000->k<=1000->(decide (a*k<=lim)&&decide (a<=maxLen))=true) /\
  (∀i:Nat,i<4611686018427387904->Ad ((i:Int)+1)=((i+1:Nat):Int))/\(∀i n:Nat,i<n->decide (i<n)=true)/\(∀i n:Nat,n<=i->decide (i<n)=false):=
 ⟨Int.natCast_nonneg,@Int.ofNat_lt,Int.toNat_natCast,fun _ _ _ h=>List.getElem?_eq_getElem h,fun _ _ _ a=>beq_self_eq_true a,Bool.and_true,Bool.true_and,fun _ _ _=>List.length_append,fun _ a=>List.nil_append a,Nat.zero_add,Q4,Zat,Gi,fun _ _ h=>ZtF h,fun _ _ h=>ZqO h⟩
theorem SM:(∀(α z:Type) (a:α) (f:α->Option z),(some a).bind f=f a)/\(decide True=true)/\(decide False=false)/\(∀(α:Type) (a b:α),cond true a b=a)/\(∀(α:Type) (a b:α),cond false a b=b) /\
  (∀p:Prop,(True/\p)=p)/\(∀p:Prop,(p/\True)=p)/\(∀α:Type,([]:List α).length=0)/\(∀(α:Type) (a:α) (l:List α),(a::l).length=l.length+1)/\((!true)=false)/\((!false)=true):=
 ⟨fun _ _ _ _=>rfl,rfl,rfl,fun _ _ _=>rfl,fun _ _ _=>rfl,true_and,and_true,fun _=>rfl,fun _ _ _=>rfl,rfl,rfl⟩
theorem Uz {S R α:Type} (F:S->Int->Option R) (xs:List α) (step:S->α->S) (C:S->Option R) (Inv:Nat->S->Prop)
  (D:∀(i:Nat) s (h:i<xs.length),Inv i s->F s i=F (step s xs[i]) ((i+1:Nat):Int)/\Inv (i+1) (step s xs[i]))
  (I:∀s,Inv xs.length s->F s (xs.length:Int)=C s) (s:S) (Q:Inv 0 s):F s 0=C (xs.foldl step s)/\Inv xs.length (xs.foldl step s):=by
 have key:∀(ys zs:List α) (s:S),xs=ys++zs->Inv ys.length s->F s (ys.length:Int)=C (zs.foldl step s)/\Inv xs.length (zs.foldl step s):=by
  intro ys zs;induction zs generalizing ys with
  | nil=>
   intro s G hi;rw[List.append_nil]at G;subst G;exact⟨I s hi,hi⟩
  | cons z zs ih=>
   intro s G hi;have Y:ys.length<xs.length:=by rw[G];simp
   have hz:xs[ys.length]=z:=by simp[G]
   obtain⟨J,M⟩:=D ys.length s Y hi;rw[hz]at J M;rw[J];have:=ih (ys++[z]) (step s z) (by simp[G]) (by simpa using M);simpa using this
 exact key [] xs s rfl Q
theorem Z7M {α z:Type} (f:α->List z) (xs:List α) (s:List z):xs.foldl (fun s x=>s++f x) s=s++xs.flatMap f:=by
 induction xs generalizing s with
 | nil=>simp
 | cons x xs C=>simp[List.foldl_cons,C,List.append_assoc]
def Bytes (xs:List Int):Prop:=∀x∈xs,0<=x/\x<256
theorem Bytes.nil:Bytes []:=fun _ h=>by cases h
theorem Bytes.cons {x:Int} {xs:List Int} (h:0<=x/\x<256) (z:Bytes xs):Bytes (x::xs):=fun y hy=>by
 rcases List.mem_cons.1 hy with rfl|hy
 ·exact h
 ·exact z y hy
theorem Bytes.app {xs ys:List Int} (z:Bytes xs) (C:Bytes ys):Bytes (xs++ys):=fun y h=>(List.mem_append.1 h).elim (z y) (C y)
theorem Bytes.sub {xs ys:List Int} (z:Bytes xs) (h:∀y∈ys,y∈xs):Bytes ys:=fun y C=>z y (h y C)
theorem Bytes.take {xs:List Int} (z:Bytes xs) (n:Nat):Bytes (xs.take n):=z.sub fun _ h=>List.mem_of_mem_take h
theorem Bytes.drop {xs:List Int} (z:Bytes xs) (n:Nat):Bytes (xs.drop n):=z.sub fun _ h=>List.mem_of_mem_drop h
theorem Bytes.get {xs:List Int} (z:Bytes xs) (i:Nat) (h:i<xs.length):0<=xs[i]/\xs[i]<256:=z _ (List.getElem_mem h)
theorem Bytes.flat {α:Type} (f:α->List Int) (l:List α) (h:∀x∈l,Bytes (f x)):Bytes (l.flatMap f):=fun y z=>by
 obtain⟨x,C,z⟩:=List.mem_flatMap.1 z;exact h x C y z
def val:List Int->Int
 | []=>0
 | b::r=>b+256*val r
theorem Z13 {xs:List Int} (h:Bytes xs):0<=val xs/\val xs<256 ^ xs.length:=by
 induction xs with
 | nil=>simp[val]
 | cons x xs C=>
  have D:=C fun y z=>h y (List.mem_cons_of_mem _ z);have G:=h x List.mem_cons_self;simp only[val,List.length_cons];rw[Int.pow_succ];omega
theorem val_append (xs:List Int) (ys:List Int):val (xs++ys)=val xs+256 ^ xs.length*val ys:=by
 induction xs with
 | nil=>simp[val]
 | cons x xs z=>
  simp only[List.cons_append,val,z,List.length_cons];rw[Int.pow_succ,Int.mul_add,<- Int.mul_assoc,Int.mul_comm 256 (256 ^ xs.length),Int.add_assoc]
theorem Zmu {n:Nat} (h:n<=8):(256:Int) ^ n<=18446744073709551616:=
 (by decide:∀n:Fin 9,(256:Int) ^ n.1<=18446744073709551616) ⟨n,by omega⟩
theorem YI {xs:List Int} (h:Bytes xs) (C:xs.length<=8):0<=val xs/\val xs<18446744073709551616:=by
 have z:=Z13 h;exact⟨z.1,Int.lt_of_lt_of_le z.2 (Zmu C)⟩
def num:Nat->Int->List Int
 | 0,_=>[]
 | n+1,v=>(v % 256)::num n (v / 256)
theorem Ep (n:Nat) (v:Int):(num n v).length=n:=by
 induction n generalizing v with
 | zero=>rfl
 | succ n z=>simp[num,z]
theorem Iw (n:Nat) (v:Int):Bytes (num n v):=by
 induction n generalizing v with
 | zero=>exact Bytes.nil
 | succ n z=>exact Bytes.cons (by omega) (z _)
theorem Z9m (n:Nat) (v:Int):num (n+1) v=num n v++[v / 256 ^ n % 256]:=by
 induction n generalizing v with
 | zero=>simp[num]
 | succ n z=>
  have e:num (n+2) v=(v % 256)::num (n+1) (v / 256):=rfl;rw[e,z];simp only[num,List.cons_append];rw[Int.pow_succ,Int.mul_comm,<- Int.ediv_ediv_of_nonneg (by decide)]
theorem ZoN (n m:Nat) (v:Int) (h:n<=m):(num m v).take n=num n v:=by
 induction n generalizing m v with
 | zero=>simp[num]
 | succ n z=>
  obtain⟨m,rfl⟩:∃k,m=k+1:=⟨m - 1,by omega⟩;simp[num,z m _ (by omega)]
theorem via {α:Type} {a b:α} (m:α) (z:a=m) (C:b=m):a=b:=z.trans C.symm
theorem and32 (x:Int) (h:0<=x) (h' : x<18446744073709551616):bits .and .u64 x (IntKind.wrap .u64 ((IntKind.wrap .u64 ((1:Int)*2 ^ (min (Int.toNat 32) (IntKind.bits .u64)))) - (1:Int)))=x % 4294967296:=by
 have:=bits_mask .u64 64 (by decide) wraps_u64 32 (by decide) x h h';exact this
theorem Z5s (x:Int) (h:0<=x) (h' : x<18446744073709551616):Na x 32=some (x % 4294967296):=(AQ _ _).trans (by
 simp only[fG,DN];rw[show decide ((32:Int)<=0)=false from rfl,show decide ((32:Int)>=64)=false from rfl,show decide ((0:Int)<=32)=true from rfl];simp only[cond_false,cond_true];rw[and32 x h h'])
theorem or0 (x:Int) (h:0<=x) (h' : x<18446744073709551616):bits .or .u64 x 0=x:=by
 obtain⟨a,rfl⟩:=Int.eq_ofNat_of_zero_le h;have:=(bits_nat .u64 64 (by decide) wraps_u64 a 0 (show a<18446744073709551616 by omega) (by decide)).2;rw[Nat.or_zero]at this;exact this
def rotl (k:Int) (p q:Nat):Int:=bits .or .u64 (IntKind.wrap .u64 (k*2 ^ p)) (Int.fdiv k (2 ^ q))
theorem rotl0 (k:Int) (h:0<=k) (h' : k<18446744073709551616):rotl k 0 64=k:=by
 unfold rotl;rw[Int.pow_zero,Int.mul_one,wu64 h h',Int.fdiv_eq_ediv_of_nonneg _ (by decide),show (2:Int) ^ 64=18446744073709551616 from rfl,Int.ediv_eq_zero_of_lt h h',or0 k h h']
theorem Zsb (k:Int) (h:0<=k) (h' : k<18446744073709551616) (i:Int) (R:0<=i) (S:i<8) :
  ∃lo,(0<=lo/\lo<4294967296)/\XW k i=some lo/\∃x,Pz k (Int.tmod (Ad ((11:Int)*(Int.tmod i (64:Int)))) (64:Int))=some x/\∃y,Na x 32=some y/\IntKind.wrap .u32 y=lo:=by
 have key:∀x,0<=x->x<18446744073709551616->AY iI (.b1 x)=some (x % 4294967296):=fun x D C =>(AQ _ _).trans (by
  simp only[iI,DN];rw[Int.tmod_eq_emod_of_nonneg D,Js (by omega) (by omega)])
 have hi:i=0\/i=1\/i=2\/i=3\/i=4\/i=5\/i=6\/i=7:=by omega
 have low:∀x,0<=x->x<18446744073709551616->∃y,Na x 32=some y/\IntKind.wrap .u32 y=x % 4294967296:=fun x D C =>⟨_,Z5s x D C,Js (by omega) (by omega)⟩;have z:∀p q:Nat,∀n:Int,Pz k n=some (rotl k p q)->XW k i=AY iI (.b1 (rotl k p q))->Int.tmod (Ad ((11:Int)*(Int.tmod i (64:Int)))) (64:Int)=n ->
   ∃lo,(0<=lo/\lo<4294967296)/\XW k i=some lo/\∃x,Pz k (Int.tmod (Ad ((11:Int)*(Int.tmod i (64:Int)))) (64:Int))=some x/\∃y,Na x 32=some y/\IntKind.wrap .u32 y=lo:=fun p q n I J M=>by
  have hb:0<=rotl k p q/\rotl k p q<18446744073709551616:=b64 _ _ _;obtain⟨y,Q,G⟩:=low _ hb.1 hb.2;exact⟨rotl k p q % 4294967296,by omega,by rw[J,key _ hb.1 hb.2],_,by rw[M];exact I,y,Q,G⟩
 rcases hi with rfl|rfl|rfl|rfl|rfl|rfl|rfl|rfl
 ·refine z 0 64 0 ((AQ _ _).trans rfl) ?_ rfl;rw[rotl0 k h h'];exact(AQ _ _).trans rfl
 ·exact z 11 53 11 ((AQ _ _).trans rfl) ((AQ _ _).trans rfl) rfl
 ·exact z 22 42 22 ((AQ _ _).trans rfl) ((AQ _ _).trans rfl) rfl
 ·exact z 33 31 33 ((AQ _ _).trans rfl) ((AQ _ _).trans rfl) rfl
 ·exact z 44 20 44 ((AQ _ _).trans rfl) ((AQ _ _).trans rfl) rfl
 ·exact z 55 9 55 ((AQ _ _).trans rfl) ((AQ _ _).trans rfl) rfl
 ·exact z 2 62 2 ((AQ _ _).trans rfl) ((AQ _ _).trans rfl) rfl
 ·exact z 13 51 13 ((AQ _ _).trans rfl) ((AQ _ _).trans rfl) rfl
theorem turn7 (x:Int):NV x 7=Oq x 7:=by
 rw[show NV x 7=_ from AQ _ _,show Oq x 7=_ from AQ _ _];rfl
theorem Ztb (x:Int):NV x 16=Oq x 16:=by
 rw[show NV x 16=_ from AQ _ _,show Oq x 16=_ from AQ _ _];rfl
theorem Zqn (k:Int) (h:0<=k) (h' : k<18446744073709551616) (i:Int) (z:0<=i) (J:i<8) (a:Int):yY k i a=RQ k i a:=by
 obtain⟨lo,M,C,x,D,y,G,I⟩:=Zsb k h h' i z J;refine via ((Oq (IntKind.wrap .u32 (a+lo)) 7).bind fun x2=>(Oq lo 16).bind fun x3=>some (bits .xor .u32 (IntKind.wrap .u32 (x2*(2654435761:Int))) x3)) ((AQ _ _).trans ?_) ((AQ _ _).trans ?_)
 ·simp only[Z6Q,DN,C,Option.bind_some];rfl
 ·simp only[dY,DN,D,G,I,Option.bind_some,turn7,Ztb];rfl
theorem Zs0 (k:Int) (h:0<=k) (h' : k<18446744073709551616):∀(n:Nat) (i l r:Int),0<=i->8 - i<=n->0<=l->l<4294967296->0<=r->r<4294967296->AY VB (.b1 k l r i)=AY GY (.b1 k i ⟨l,r⟩):=by
 have G:∀i l r:Int,¬i<8->0<=l->l<4294967296->0<=r->r<4294967296->AY VB (.b1 k l r i)=AY GY (.b1 k i ⟨l,r⟩):=fun i l r hi I C D z =>by
  refine via (some (l*4294967296+r)) ((AQ _ _).trans ?_) ((AQ _ _).trans ?_)
  ·simp only[VB,DN];rw[decide_eq_false hi,wu64 (n:=l) (by omega) (by omega),wu64 (n:=r) (by omega) (by omega),wu64 (n:=l*4294967296) (by omega) (by omega),wu64 (by omega) (by omega)];rfl
  ·simp only[GY,DN];rw[decide_eq_false hi];simp only[cond_false];rw[show RF ⟨l,r⟩=some (l*4294967296+r) from(AQ _ _).trans (by
    simp only[aZ,DN];rw[wu64 (n:=l) (by omega) (by omega),wu64 (n:=r) (by omega) (by omega),show (2:Int) ^ (32:Nat)=4294967296 from rfl,wu64 (n:=l*4294967296) (by omega) (by omega)];rw[bits_join .u64 64 (by decide) wraps_u64 32 (l*4294967296) r (by omega) (by omega) (by omega) D (by omega) (by omega)])]
   rfl
 intro n;induction n with
 | zero=>intro i l r J Q I C D z;exact G i l r (by omega) I C D z
 | succ n R=>
  intro i l r J Q I C D z
  by_cases hi:i<8
  ·refine via ((RQ k i r).bind fun x=>AY GY (.b1 k (Ad (i+1)) ⟨r,bits .xor .u32 l x⟩)) ((AQ _ _).trans ?_) ((AQ _ _).trans ?_)
   ·simp only[VB,DN];rw[decide_eq_true hi,Zqn k h h' i J hi];simp only[cond_true];congr 1;funext x;have M:=b32 .xor l x;rw[Ez (by omega) (by omega)];exact R (i+1) r (bits .xor .u32 l x) (by omega) (by omega) D z M.1 M.2
   ·simp only[GY,DN];rw[decide_eq_true hi];rfl
  ·exact G i l r hi I C D z
theorem e_Mix (k x:Int) (h:0<=k) (h' : k<18446744073709551616) (z:0<=x) (C : x<18446744073709551616):XZ k x=Ia k x:=by
 refine via (AY GY (.b1 k 0 ⟨x / 4294967296,x % 4294967296⟩)) ((AQ _ _).trans ?_) ((AQ _ _).trans ?_)
 ·simp only[VB,DN];rw[Int.tdiv_eq_ediv_of_nonneg z,Int.tmod_eq_emod_of_nonneg z,wu64 (n:=x / 4294967296) (by omega) (by omega),Js (n:=x / 4294967296) (by omega) (by omega),Js (n:=x % 4294967296) (by omega) (by omega)];exact Zs0 k h h' 8 0 _ _ (by omega) (by omega) (by omega) (by omega) (by omega) (by omega)
 ·simp only[GY,DN];rw[show Ua x=some ⟨x / 4294967296,x % 4294967296⟩ from(AQ _ _).trans (by
   simp only[dZ,DN,Z5s x z C,Option.bind_some];rw[Int.fdiv_eq_ediv_of_nonneg _ (by decide),show (2:Int) ^ (32:Nat)=4294967296 from rfl,Js (n:=x / 4294967296) (by omega) (by omega),Js (n:=x % 4294967296) (by omega) (by omega)])]
  rfl
noncomputable def O1 (k x:Int):Int:=(Ia k x).getD 0
theorem Ve (k x:Int):Ia k x=some (O1 k x):=by
 obtain⟨r,z⟩:=Z1d k x;rw[O1,z];rfl
theorem ZoF (k:Int):∀(n:Nat) (i:Int) (h:I9) (r:Int),0<=i->8 - i<=n->AY GY (.b1 k i h)=some r->0<=r/\r<18446744073709551616:=by
 have C:∀(i:Int) (h:I9) (r:Int),¬i<8->AY GY (.b1 k i h)=some r->0<=r/\r<18446744073709551616:=fun i h r hi z=>by
  rw[AQ]at z;simp only[GY,DN]at z;rw[decide_eq_false hi,show RF h=_ from AQ _ _]at z;simp only[aZ,DN,cond_false,Option.bind_some,Option.some.injEq]at z;rw[<- z];exact b64 _ _ _
 intro n;induction n with
 | zero=>intro i h r D G z;exact C i h r (by omega) z
 | succ n J=>
  intro i h r D G z
  by_cases hi:i<8
  ·rw[AQ]at z;simp only[GY,DN]at z;rw[decide_eq_true hi,Ez (by omega) (by omega)]at z;simp only[cond_true]at z;obtain⟨x,_,I⟩:=Option.bind_eq_some_iff.1 z;exact J _ _ _ (by omega) (by omega) I
  ·exact C i h r hi z
theorem Z0j (k x:Int):0<=O1 k x/\O1 k x<18446744073709551616:=by
 have h:=Ve k x;rw[show Ia k x=_ from AQ _ _]at h;simp only[GY,DN]at h;obtain⟨y,_,z⟩:=Option.bind_eq_some_iff.1 h;exact ZoF k 8 0 y _ (by omega) (by omega) z
def Fa (k:Int):Prop:=0<=k/\k<18446744073709551616
theorem Z87 (k x:Int) (h:Fa k) (z:Fa x):XZ k x=some (O1 k x):=(e_Mix k x h.1 h.2 z.1 z.2).trans (Ve k x)
theorem jD {R α G:Type} (F:List G->Int->Option R) (xs:List α) (f:α->List G) (z:List G->Option R) (B:Nat)
  (C:∀(i:Nat) s (h:i<xs.length),s.length+(f xs[i]).length<=B->F s i=F (s++f xs[i]) ((i+1:Nat):Int))
  (D:∀s,F s (xs.length:Int)=z s) (s:List G) (I:s.length+(xs.flatMap f).length<=B):F s 0=z (s++xs.flatMap f):=by
 have key:=Uz F xs (fun s x=>s++f x) z (fun i s=>s.length+((xs.drop i).flatMap f).length<=B)
  (fun i s h hi=>by
   simp only[List.drop_eq_getElem_cons h,List.flatMap_cons,List.length_append]at hi;exact⟨C i s h (by omega),by simp only[List.length_append];omega⟩)
  (fun s _=>D s) s (by simpa using I)
 rw[key.1,Z7M]
theorem PV (ls:List (List Int)) (h:ls.flatten.length<=100000) (C:ls.length<=100000):Hw ls=some ls.flatten:=(AQ _ _).trans (by
 simp only[XA,DN,SL,SM];have:=jD (fun s i=>AY XA (.b1 s ls ls.length i)) ls id some 100000 (fun i s hi z=>(AQ _ _).trans (by
   simp only[id]at z;simp(disch:=omega) only[XA,hi,id,DN,SL,SM]))
  (fun s=>(AQ _ _).trans (by simp only[XA,Int.lt_irrefl,DN,SL,SM])) [] (by simpa[List.flatMap_id]using h)
 simpa[List.flatMap_id]using this)
theorem Z9D (n:Int) (h:1<=n) (h' : n<=8):dM n=some true:=(AQ _ _).trans (by
 simp only[Z4Z,DN,decide_eq_true (show n>=1 from h),decide_eq_true h',cond_true])
theorem TG (j:Nat):(2:Int) ^ (8*j)=256 ^ j:=by rw[Int.pow_mul];rfl
theorem sh8 (v:Int) (j:Nat) (z:j<=8):Int.fdiv v (2 ^ (min (Int.toNat (Ad ((8:Int)*(j:Int)))) (IntKind.bits .u64)))=v / 256 ^ j:=by
 rw[Ez (by omega) (by omega),show Int.toNat (8*(j:Int))=8*j by omega,show min (8*j) (IntKind.bits .u64)=8*j from Nat.min_eq_left (by show 8*j<=64;omega),TG,Int.fdiv_eq_ediv_of_nonneg _ (Int.le_of_lt (by exact_mod_cast Nat.pow_pos (by decide)))]
theorem put3 (fs:List DF) (s:List Int) (n:Int) (i m:Nat) (x:DF) (hm:m<=8) (J:s.length<=1000) (hi:i<=1000):∀(d j:Nat),j+d=m ->
  AY KZ (.b3 (s++num j x.Value) fs n i m j x)=AY KZ (.b1 (s++num m x.Value) fs n ((i+1:Nat):Int)):=by
 intro d;induction d with
 | zero=>
  intro j D;obtain rfl:j=m:=by omega
  refine(AQ _ _).trans ?_;simp(disch:=omega) only[KZ,Int.lt_irrefl,DN,SL,SM]
 | succ d I=>
  intro j D;rw[<- I (j+1) (by omega),Z9m,<- List.append_assoc];refine(AQ _ _).trans ?_;have z:j<m:=by omega
  have C:decide (0<=Ad (8*(j:Int)))=true:=decide_eq_true (by rw[Ez (by omega) (by omega)];omega);have G:=Ep j x.Value;simp(disch:=omega) only[KZ,z,C,sh8,IntKind.wrap_u8,G,DN,SL,SM]
def LD (f:DF):List Int:=num f.Size.toNat f.Value
theorem YP (fs:List DF) (I:∀f∈fs,1<=f.Size/\f.Size<=8/\0<=f.Value/\f.Value<256 ^ f.Size.toNat) (J:(fs.flatMap LD).length<=1000) (Q:fs.length<=1000) :
  MK fs=some (fs.flatMap LD,0):=(AQ _ _).trans (by
 simp only[KZ,DN,SL,SM];have:=jD (fun s i=>AY KZ (.b1 s fs fs.length i)) fs LD (fun s=>some (s,0)) 1000 (fun i s hi R=>(AQ _ _).trans (by
   obtain⟨D,G,C,M⟩:=I fs[i] (List.getElem_mem hi);simp(disch:=omega) only[KZ,hi,Z9D _ D G,DN,SL,SM];have key:AY KZ (.b2 s fs fs.length i fs[i])=AY KZ (.b1 (s++LD fs[i]) fs fs.length ((i+1:Nat):Int)):=by
    refine(AQ _ _).trans ?_;simp(disch:=omega) only[KZ,DN,SL,SM];have:=put3 fs s fs.length i fs[i].Size.toNat fs[i] (by omega) (by omega) (by omega) fs[i].Size.toNat 0 (by omega);simp only[num,List.append_nil]at this;rw[show ((fs[i].Size.toNat:Nat):Int)=fs[i].Size by omega]at this;exact this
   by_cases z:fs[i].Size<8
   ·have e:=sh8 fs[i].Value fs[i].Size.toNat (by omega);rw[show ((fs[i].Size.toNat:Nat):Int)=fs[i].Size by omega,Int.ediv_eq_zero_of_lt C M]at e;rw[e,decide_eq_true z,show decide (0<=Ad (8*fs[i].Size))=true from decide_eq_true (by rw[Ez (by omega) (by omega)];omega)];exact key
   ·rw[decide_eq_false z];exact key))
  (fun s=>(AQ _ _).trans (by simp only[KZ,Int.lt_irrefl,DN,SL,SM])) [] (by simpa using J)
 simpa using this)
theorem zB {α:Type} (f:α->List Int) (c:Nat) (xs:List α) (h:∀x∈xs,(f x).length=c):(xs.flatMap f).length=c*xs.length:=by
 induction xs with
 | nil=>simp
 | cons x xs C=>
  rw[List.flatMap_cons,List.length_append,h x List.mem_cons_self,C fun y z=>h y (List.mem_cons_of_mem _ z),List.length_cons,Nat.mul_succ];omega
theorem Z9H (xs:List Int) (C:∀x∈xs,Fa x) (I:xs.length<=100):RU xs=some (xs.flatMap (num 8)):=(AQ _ _).trans (by
 simp only[XK,DN,SL,SM];have:=jD (fun s i=>AY XK (.b1 s xs xs.length i)) xs (fun x=>[(⟨8,x⟩:DF)]) (fun s=>(MK s).bind fun r=>some r.1) 1000 (fun i s hi G=>(AQ _ _).trans (by
   simp only[List.length_cons,List.length_nil]at G;simp(disch:=omega) only[XK,hi,DN,SL,SM]))
  (fun s=>(AQ _ _).trans (by simp only[XK,Int.lt_irrefl,DN,SL,SM];rfl)) [] (by
   rw[show (xs.flatMap fun x=>[(⟨8,x⟩:DF)])=xs.map fun x=>(⟨8,x⟩:DF) from(List.map_eq_flatMap).symm];simp;omega)
 refine this.trans ?_;rw[List.nil_append,show (xs.flatMap fun x=>[(⟨8,x⟩:DF)])=xs.map fun x=>(⟨8,x⟩:DF) from(List.map_eq_flatMap).symm];have e:(xs.map fun x=>(⟨8,x⟩:DF)).flatMap LD=xs.flatMap (num 8):=by rw[List.flatMap_map];rfl
 rw[YP _ (fun f D=>by
  obtain⟨x,z,rfl⟩:=List.mem_map.1 D;exact⟨show (1:Int)<=8 by decide,show (8:Int)<=8 by decide,(C x z).1,(C x z).2⟩) (by rw[e,zB _ 8 _ fun x _=>Ep 8 x];omega) (by simp;omega),e]
 rfl)
theorem Zts (m:Nat) (hm:m<=100) (v:Int) (h:Fa v):∀(d j:Nat),j+d=m->AY X5 (.b1 m (v / 256 ^ j) (num j v) j)=some (num m v):=by
 intro d;induction d with
 | zero=>
  intro j C;obtain rfl:j=m:=by omega
  refine(AQ _ _).trans ?_;simp(disch:=omega) only[X5,Int.lt_irrefl,DN,SL,SM]
 | succ d G=>
  intro j C;have p:(0:Int)<256 ^ j:=by exact_mod_cast Nat.pow_pos (by decide)
  have q:0<=v / 256 ^ j:=Int.ediv_nonneg h.1 (Int.le_of_lt p);have I : v / 256 ^ j<18446744073709551616:=Int.lt_of_le_of_lt (Int.ediv_le_self _ h.1) h.2;have z:j<m:=by omega
  have D:=Ep j v;rw[<- G (j+1) (by omega),Z9m];refine(AQ _ _).trans ?_;simp(disch:=omega) only[X5,z,D,Int.tmod_eq_emod_of_nonneg q,Int.tdiv_eq_ediv_of_nonneg q,DN,SL,SM];rw[TN (by omega) (by omega),wu64 (by omega) (by omega),Int.ediv_ediv_of_nonneg (by omega),Int.pow_succ]
theorem v_Num (m:Nat) (hm:m<=100) (v:Int) (h:Fa v):iM m v=some (num m v):=(AQ _ _).trans (by
 simp only[X5,DN,SL,SM];have:=Zts m hm v h m 0 (by omega);simpa[num]using this)
theorem Zo6 (xs:List Int) (hb:Bytes xs) (J:xs.length<=8):∀n:Nat,n<=xs.length->AY XI (.b1 xs (val (xs.drop n)) ((n:Int) - 1))=some (val xs):=by
 intro n;induction n with
 | zero=>
  intro _;refine(AQ _ _).trans ?_;simp only[XI,DN];rw[show decide (((0:Nat):Int) - 1>=0)=false from rfl];simp
 | succ n z=>
  intro M;have I:val (xs.drop n)=xs[n]+256*val (xs.drop (n+1)):=by rw[List.drop_eq_getElem_cons (show n<xs.length by omega)];rfl
  have C:=YI (hb.drop n) (by rw[List.length_drop];omega);have D:=YI (hb.drop (n+1)) (by rw[List.length_drop];omega);have G:=hb.get n (by omega);refine(AQ _ _).trans ?_;simp only[XI,DN];rw[show ((n+1:Nat):Int) - 1=(n:Int) by omega,show decide ((n:Int)>=0)=true from decide_eq_true (by omega),show decide (0<=(n:Int)/\(n:Int)<(xs.length:Int))=true from decide_eq_true (by omega)];simp only[cond_true,Int.toNat_natCast,List.getElem?_eq_getElem (show n<xs.length by omega),Option.bind_some];rw[wu64 (n:=val (xs.drop (n+1))*256) (by omega) (by omega),wu64 (n:=xs[n]) (by omega) (by omega),wu64 (by omega) (by omega),Ez (by omega) (by omega),show val (xs.drop (n+1))*256+xs[n]=val (xs.drop n) by omega];exact z (by omega)
theorem ZrH (xs:List Int) (hb:Bytes xs) (z:xs.length<=8):yX xs=some (val xs):=(AQ _ _).trans (by
 simp only[XI,DN];have:=Zo6 xs hb z xs.length (Nat.le_refl _);rw[List.drop_of_length_le (Nat.le_refl _)]at this;rw[Ez (by omega) (by omega)];exact this)
def nJ (xs:List Int) (g:Nat):Int:=val ((xs.drop (8*g)).take 8)
theorem ZoD (ys:List Int) (hb:Bytes ys) (J:ys.length<=8):∀m:Nat,m<=ys.length->J9 ys m=val (ys.take m):=by
 intro m;induction m with
 | zero=>intro _;simp[J9,val]
 | succ m I=>
  intro hm;have G:=hb.get m (by omega);have C:=Z13 (hb.take m);have D:=YI (hb.take (m+1)) (by rw[List.length_take];omega);have e:val (ys.take (m+1))=val (ys.take m)+256 ^ m*ys[m]:=by
   rw[List.take_add_one,List.getElem?_eq_getElem (show m<ys.length by omega),val_append];simp[val,Nat.min_eq_left (show m<=ys.length by omega)]
  rw[List.length_take,Nat.min_eq_left (by omega)]at C;rw[e]at D;have z:0<=256 ^ m*ys[m]:=Int.mul_nonneg (Int.le_of_lt (by exact_mod_cast Nat.pow_pos (by decide))) G.1;rw[e,J9,I (by omega),List.getElem?_eq_getElem (show m<ys.length by omega),Option.getD_some,TG,Int.mul_comm ys[m],wu64 z (by omega)];refine Sz .u64 64 (by decide) wraps_u64 (8*m) (by omega) _ _ z ?_ (by show _<(18446744073709551616:Int);omega) C.1 ?_
  ·rw[TG];exact Int.mul_emod_right _ _
  ·rw[TG];exact C.2
theorem Znp (xs:List Int) (hb:Bytes xs) (g:Nat):JF xs g=nJ xs g:=by
 unfold JF nJ;rw[ZoD _ ((hb.drop _).take _) (by rw[List.length_take];omega) _ (Nat.le_refl _),List.take_of_length_le (Nat.le_refl _)]
noncomputable def TC (k:Int) (xs:List Int) (m g:Nat) (s:Int):Int:=(List.range' g m).foldl (fun s g=>O1 k (bits .xor .u64 s (nJ xs g))) s
noncomputable def NL (k:Int) (xs:List Int):Int:=TC k xs (gN xs) 0 (O1 k xs.length)
theorem Zr2 (k:Int) (xs:List Int):∀m g s,Fa s->Fa (TC k xs m g s):=by
 intro m;induction m with
 | zero=>intro g s h;exact h
 | succ m z=>
  intro g s h;rw[TC,List.range'_succ];exact z (g+1) _ (Z0j _ _)
theorem Z0t (k:Int) (xs:List Int):Fa (NL k xs):=Zr2 _ _ _ _ _ (Z0j _ _)
theorem Z1g (k:Int) (xs:List Int) (hb:Bytes xs) (C:xs.length<=100000):Rh k xs=some (NL k xs):=by
 have key:∀(l:List Nat) (s:Int),l.foldlM (fun s g=>Ia k (bits .xor .u64 s (JF xs g))) s=some (l.foldl (fun s g=>O1 k (bits .xor .u64 s (nJ xs g))) s):=by
  intro l;induction l with
  | nil=>intro s;rfl
  | cons g l z=>
   intro s;rw[List.foldlM_cons,Ve,Znp xs hb];exact z _
 unfold Rh TB NL TC;rw[if_pos (by omega),Ve,Option.bind_some,key,List.range_eq_range']
theorem Zlf (k:Int) (I:Fa k) (xs:List Int) (hb:Bytes xs) (Q:xs.length<=100000):∀(m g:Nat) (s:Int),m+g=gN xs->AY XX (.b1 k xs s ((8*g:Nat):Int))=some (TC k xs m g s):=by
 intro m;induction m with
 | zero=>
  intro g s z;unfold gN at z;refine(AQ _ _).trans ?_;simp(disch:=omega) only[XX,DN,SL,SM];rfl
 | succ m M=>
  intro g s z;have G :=z;unfold gN at z;have J:8*g<xs.length:=by omega
  refine(AQ _ _).trans ?_;have C:(if (↑xs.length:Int)<(Ad (((8*g:Nat):Int)+8)) then (↑xs.length:Int) else (Ad (((8*g:Nat):Int)+8)))=((min (8*g+8) xs.length:Nat):Int):=by
   rw[Ez (by omega) (by omega)];split<;>omega
  have D:(xs.drop (8*g)).take (min (8*g+8) xs.length - 8*g)=(xs.drop (8*g)).take 8:=by
   by_cases h:8*g+8<=xs.length
   ·rw[Nat.min_eq_left h,show 8*g+8 - 8*g=8 by omega]
   ·rw[List.take_of_length_le (by rw[List.length_drop];omega),List.take_of_length_le (by rw[List.length_drop];omega)]
  simp only[XX,DN,C];rw[decide_eq_true (show ((8*g:Nat):Int)<(xs.length:Int) by omega),decide_eq_true (show (0:Int)<=((min (8*g+8) xs.length:Nat):Int)/\((min (8*g+8) xs.length:Nat):Int)<=(xs.length:Int) by omega)];simp only[Int.toNat_natCast];rw[decide_eq_true (show (0:Int)<=((8*g:Nat):Int)/\((8*g:Nat):Int)<=((min (8*g+8) xs.length:Nat):Int) by omega),D,ZrH _ ((hb.drop _).take _) (by rw[List.length_take];omega)];simp only[cond_true,Option.bind_some];rw[Z87 k _ I (b64 _ _ _),Option.bind_some,Ez (by omega) (by omega),show ((8*g:Nat):Int)+8=((8*(g+1):Nat):Int) by omega,M (g+1) _ (by omega)];rw[TC,TC,List.range'_succ];rfl
theorem ZnZ (k:Int) (z:Fa k) (xs:List Int) (hb:Bytes xs) (C:xs.length<=100000):X4 k xs=some (NL k xs):=(AQ _ _).trans (by
 simp only[XX,DN];rw[wu64 (by omega) (by omega),Z87 k _ z ⟨by omega,by omega⟩,Option.bind_some];exact Zlf k z xs hb C (gN xs) 0 _ (by omega))
def lab (st:ByteArray):List Int:=st.data.toList.map fun b=>(b.toNat:Int)
theorem Z9X (st:ByteArray):lY U 5 st=true:=List.all_eq_true.2 fun b _=>rfl
theorem Z7z (st:ByteArray):Ku U 5 st=lab st:=by
 unfold Ku lab;induction st.data.toList with
 | nil=>rfl
 | cons b l z=>exact congrArg (List.cons ((b.toNat:Nat):Int)) z
theorem Z86 (st:ByteArray):Bytes (lab st):=fun x z=>by
 obtain⟨b,_,rfl⟩:=List.mem_map.1 z;have:b.toNat<256:=b.toNat_lt;omega
theorem Zaq (st:ByteArray):(lab st).length=st.size:=by rw[lab,List.length_map,Array.length_toList];rfl
theorem Z8G (l:List Int) (n:Nat):Bytes (l.flatMap (num n)):=Bytes.flat _ _ fun x _=>Iw n x
theorem Z77:Bytes [0]:=Bytes.cons ⟨by decide,by decide⟩ Bytes.nil
noncomputable def KI (k:Int) (st:ByteArray) (z:List Int):Int:=NL k (lab st++[0]++z.flatMap (num 8))
theorem zO (k:Int) (st:ByteArray) (z:List Int):Fa (KI k st z):=Z0t _ _
theorem Z65 (k:Int) (st:ByteArray) (z:List Int) (J:st.size<=1000) (I:∀x∈z,Fa x) (G:z.length<=100):eY k st z=some (KI k st z):=(AQ _ _).trans (by
 have C:=zB (num 8) 8 z fun x _=>Ep 8 x;have D:=Zaq st;simp only[Z6m,Z9X,Z7z,Z9H z I G,DN,SL,SM];rw[PV _ (by simp[C,D];omega) (by simp)];simp only[Option.bind_some,List.flatten_cons,List.flatten_nil,List.append_nil];rw[Z1g k _ ((Z86 st).app (Z77.app (Z8G z 8))) (by simp[C,D];omega)];rw[KI,List.append_assoc];rfl)
theorem eP (k:Int) (J:Fa k) (st:ByteArray) (z:List Int) (G:st.size<=1000) (M:∀x∈z,Fa x) (R:z.length<=100):Uj k st z=some (KI k st z):=(AQ _ _).trans (by
 have C:=zB (num 8) 8 z fun x _=>Ep 8 x;have D:=Zaq st;simp(disch:=omega) only[XD,Z9X,Z7z,DN,SL,SM];have:=jD (fun s i=>AY XD (.b1 k z s i)) z (num 8) (fun s=>X4 k s) 5000 (fun i s hi G=>(AQ _ _).trans (by
   have Q:=M z[i] (List.getElem_mem hi);rw[Ep]at G;have I:iM 8 z[i]=some (num 8 z[i]):=v_Num 8 (by decide) _ Q;simp(disch:=omega) only[XD,hi,I,Ep,DN,SL,SM]))
  (fun s=>(AQ _ _).trans (by
   simp only[XD,Int.lt_irrefl,DN,SL,SM];cases X4 k s<;>rfl)) (lab st++[0]) (by rw[List.length_append,List.length_cons,List.length_nil,C,D];omega)
 refine this.trans ?_;rw[ZnZ k J _ (((Z86 st).app Z77).app (Z8G z 8)) (by simp[C,D];omega)];rfl)
noncomputable def TF (k s:Int):Nat->List Int
 | 0=>[]
 | i+1=>TF k s i++num 8 (O1 k (IntKind.wrap .u64 (s+i)))
theorem Z07 (k s:Int) (i:Nat):(TF k s i).length=8*i:=by
 induction i with
 | zero=>rfl
 | succ i z=>rw[TF,List.length_append,z,Ep];omega
theorem Zlb (k s:Int) (i:Nat):Bytes (TF k s i):=by
 induction i with
 | zero=>exact Bytes.nil
 | succ i z=>exact z.app (Iw _ _)
noncomputable def Ie (k z:Int) (n:Nat):List Int:=(TF k (O1 k z) ((n+7) / 8)).take n
theorem fK (k z:Int) (n:Nat):(Ie k z n).length=n:=by
 rw[Ie,List.length_take,Z07];omega
theorem Zib (k z:Int) (n:Nat):Bytes (Ie k z n):=(Zlb _ _ _).take _
theorem Z01 (x:Int) (h:Fa x):RU [x]=some (num 8 x):=by
 rw[Z9H [x] (fun y z=>by rw[List.mem_singleton.1 z];exact h) (by simp)];simp
theorem ZiA (k s:Int) (n:Nat) (I:n<=100000):∀d i:Nat,i+d=(n+7) / 8->AY XE (.b1 k n s (TF k s i) i)=some ((TF k s ((n+7) / 8)).take n):=by
 intro d;induction d with
 | zero=>
  intro i hi;obtain rfl:i=(n+7) / 8:=by omega
  have z:=Z07 k s ((n+7) / 8);refine(AQ _ _).trans ?_;have D:decide ((n:Int)<=((8*((n+7) / 8):Nat):Int))=true:=decide_eq_true (by omega);simp(disch:=omega) only[XE,z,D,List.drop_zero,Nat.sub_zero,DN,SL,SM]
 | succ d G=>
  intro i hi;have z:=Z07 k s i;refine(AQ _ _).trans ?_;have C:8*i<n:=by omega
  simp(disch:=omega) only[XE,z,C,Ve,Z01 _ (Z0j _ _),Ep,DN,SL,SM];rw[wu64 (n:=(i:Int)+1) (by omega) (by omega)];exact G (i+1) (by omega)
theorem Z62 (k z:Int) (n:Nat) (C:n<=100000):fH k z n=some (Ie k z n):=(AQ _ _).trans (by
 have e:Ad ((n:Int)+8)=((n+8:Nat):Int):=by rw[Ez (by omega) (by omega)];simp
 have h:decide ((0:Int)<=0/\(0:Int)<=((n+8:Nat):Int)/\Int.toNat ((n+8:Nat):Int)*1<=lim/\((n+8:Nat):Int)<=(↑maxLen:Int))=true:=
  decide_eq_true ⟨by decide,by omega,by rw[Int.toNat_natCast];exact Nat.le_trans (by omega) YH,by exact_mod_cast Nat.le_trans (show n+8<=1000000000 by omega) VD⟩
 simp only[XE,DN,Ve,Option.bind_some,e];rw[h];exact ZiA k _ n C ((n+7) / 8) 0 (by omega))
def D7 (a b:List Int):List Int:=List.zipWith (bits .xor .u8) a b
theorem VE (a b:List Int):(D7 a b).length=min a.length b.length:=List.length_zipWith
theorem zC (a b:List Int):Bytes (D7 a b):=fun x z=>by
 obtain⟨i,hi,rfl⟩:=List.getElem_of_mem z;simp only[D7,List.getElem_zipWith];exact b8 _ _ _
theorem ZqW (ys:List Int) (i:Nat) (h:i<ys.length):(ys.take i++List.replicate (ys.length - i) (0:Int)).set i ys[i]=ys.take (i+1)++List.replicate (ys.length - (i+1)) 0:=by
 rw[show ys.length - i=(ys.length - (i+1))+1 by omega,List.replicate_succ,List.set_append_right _ _ (by rw[List.length_take];omega),List.length_take,Nat.min_eq_left (by omega),Nat.sub_self,List.set_cons_zero,List.take_add_one,List.getElem?_eq_getElem h,List.append_assoc];rfl
theorem Zij (a b:List Int) (Q:a.length<=100000):∀d i:Nat,i+d=(D7 a b).length->AY XG (.b1 a b ((D7 a b).take i++List.replicate ((D7 a b).length - i) 0) (D7 a b).length i)=some (D7 a b):=by
 have R:=VE a b;intro d;induction d with
 | zero=>
  intro i hi;obtain rfl:i=(D7 a b).length:=by omega
  refine(AQ _ _).trans ?_;simp only[XG,Int.lt_irrefl,Nat.sub_self,List.replicate_zero,List.append_nil,List.take_length,DN,SL,SM]
 | succ d J=>
  intro i hi;have z:i<(D7 a b).length:=by omega
  have C:i<a.length:=by omega
  have D:i<b.length:=by omega
  have I:=ZqW (D7 a b) i z;have hb:bits .xor .u8 a[i] b[i]=(D7 a b)[i]:=by simp only[D7,List.getElem_zipWith]
  have G:((D7 a b).take i++List.replicate ((D7 a b).length - i) (0:Int)).length=(D7 a b).length:=by
   rw[List.length_append,List.length_take,List.length_replicate];omega
  rw[<- J (i+1) (by omega)];refine(AQ _ _).trans ?_;generalize M:(D7 a b).take i++List.replicate ((D7 a b).length - i) (0:Int)=O at *;simp(disch:=omega) only[XG,DN,Int.natCast_nonneg,Int.ofNat_lt,z,C,D,Int.toNat_natCast,List.getElem?_eq_getElem,Option.bind_some,decide_true,cond_true,true_and,G,beq_self_eq_true,Bool.true_and,Nat.zero_le,List.length_set,Gi,hb,I]
theorem Z6j (a b:List Int) (z:a.length<=100000):eX a b=some (D7 a b):=(AQ _ _).trans (by
 have C:=VE a b;have e:(if (↑b.length:Int)<(↑a.length:Int) then (↑b.length:Int) else (↑a.length:Int))=((D7 a b).length:Int):=by rw[C];split<;>omega
 have h:decide (0<=((D7 a b).length:Int)/\((D7 a b).length:Int)<=((D7 a b).length:Int)/\(D7 a b).length*1<=lim/\((D7 a b).length:Int)<=(↑maxLen:Int))=true:=
  decide_eq_true ⟨by omega,by omega,Nat.le_trans (by omega) YH,by exact_mod_cast Nat.le_trans (show (D7 a b).length<=1000000000 by omega) VD⟩
 simp only[XG,DN,e,Int.toNat_natCast,h,cond_true,beq_self_eq_true,List.length_replicate];exact Zij a b z _ 0 (Nat.zero_add _))
noncomputable def Q8 (k z:Int) (C c:List Int):List Int:=num 4 (NL k (num 8 z++num 4 C.length++C++c))
noncomputable def LU (k z:Int) (C p:List Int):List Int:=D7 p (Ie k z p.length)++Q8 k z C (D7 p (Ie k z p.length))
theorem iV (k z:Int) (C c:List Int):(Q8 k z C c).length=4:=Ep _ _
theorem ZE (k z:Int) (C p:List Int):(LU k z C p).length=p.length+4:=by
 rw[LU,List.length_append,VE,fK,iV,Nat.min_self]
theorem zA (k z:Int) (C p:List Int):Bytes (LU k z C p):=(zC _ _).app (Iw _ _)
theorem Z7l (k z:Int) (G:Fa z) (C c:List Int) (hh:Bytes C) (hc:Bytes c) (I:C.length<=1000) (hm:c.length<=50000):gB k z C c=some (Q8 k z C c):=(AQ _ _).trans (by
 simp only[Z7c,Js (n:=(C.length:Int)) (by omega) (by omega),wu64 (n:=(C.length:Int)) (by omega) (by omega),Z01 z G,DN,SL,SM];rw[YP [⟨4,C.length⟩] (fun f D=>by
  rw[List.mem_singleton.1 D];exact⟨show (1:Int)<=4 by decide,show (4:Int)<=8 by decide,show (0:Int)<=C.length by omega,show (C.length:Int)<4294967296 by omega⟩) (by simp[LD,Ep]) (by simp)]
 simp only[Option.bind_some,List.flatMap_cons,List.flatMap_nil,List.append_nil,LD,show Int.toNat 4=4 from rfl];rw[PV _ (by simp[Ep];omega) (by simp)];simp only[Option.bind_some,List.flatten_cons,List.flatten_nil,List.append_nil];rw[Z1g k _ ((Iw _ _).app ((Iw _ _).app (hh.app hc))) (by simp[Ep];omega)];simp only[Option.bind_some];rw[Z01 _ (Z0t _ _)];simp only[Option.bind_some,Ep];rw[show decide ((0:Int)<=4/\(4:Int)<=((8:Nat):Int))=true from rfl];simp only[cond_true,List.drop_zero,show Int.toNat 4 - 0=4 from rfl,ZoN 4 8 _ (by decide),Q8,List.append_assoc])
theorem Z7x (k z:Int) (G:Fa z) (C p:List Int) (hh:Bytes C) (D:C.length<=1000) (hm:p.length<=50000):XR k z C p=some (LU k z C p):=(AQ _ _).trans (by
 have e:=VE p (Ie k z p.length);rw[fK,Nat.min_self]at e;simp only[Z7E,Z62 k z p.length (by omega),Z6j p _ (by omega),Z7l k z G C (D7 p (Ie k z p.length)) hh (zC _ _) D (by omega),DN,SL,SM];rw[PV _ (by simp[iV,e];omega) (by simp)];simp only[Option.bind_some,List.flatten_cons,List.flatten_nil,List.append_nil,LU])
def KW (x:Int):Prop:=0<=x/\x<4294967296
def NP (x:Int):Prop:=0<=x/\x<65536
noncomputable def Ny (kind src seq iv:Int):Int:=KI 0 (⟨#[110,111,110,99,101]⟩:ByteArray) [kind,src,seq,iv]
theorem Zkj {kind src seq iv:Int} (z:Fa kind) (C:NP src) (D:KW seq) (G:KW iv):(∀x∈[kind,src,seq,iv],Fa x)/\[(IntKind.wrap .u64 (kind)),(IntKind.wrap .u64 (src)),(IntKind.wrap .u64 (seq)),(IntKind.wrap .u64 (iv))]=[kind,src,seq,iv]:=by
 have a1:=C.1;have J:=C.2;have M:=D.1;have Q:=D.2;have R:=G.1;have S:=G.2;refine⟨fun x I=>?_,?_⟩
 ·simp only[List.mem_cons,List.not_mem_nil,or_false]at I;rcases I with rfl|rfl|rfl|rfl
  ·exact z
  all_goals exact⟨by omega,by omega⟩
 ·rw[wu64 z.1 z.2,wu64 (by omega) (by omega),wu64 (by omega) (by omega),wu64 (by omega) (by omega)]
theorem dL {kind src seq iv:Int} (I:Fa kind) (z:NP src) (C:KW seq) (D:KW iv):U0 kind src seq iv=some (Ny kind src seq iv):=(AQ _ _).trans (by
 obtain⟨J,G⟩:=Zkj I z C D;have:vN [kind,src,seq,iv]=some (Ny kind src seq iv):=(AQ _ _).trans (by
  simp only[Z4T,DN,Z65 0 (⟨#[110,111,110,99,101]⟩:ByteArray) [kind,src,seq,iv] (by decide) J (by simp)];rfl)
 simp only[Z4F,G,this,DN,SL,SM])
theorem iF (a b c d:Int):Fa (Ny a b c d):=zO _ _ _
noncomputable def Bv (k:Int):Bh:=⟨k,KI k (⟨#[110,105,100]⟩:ByteArray) [] % 128,KI k (⟨#[101,110,99,114,121,112,116]⟩:ByteArray) [],KI k (⟨#[104,105,100,101]⟩:ByteArray) [],KI k (⟨#[98,101,97,99,111,110]⟩:ByteArray) []⟩
noncomputable def Xa (app:Bool) (id:Ar):Int:=Ny (if app then 1 else 2) id.Src id.Seq id.IV
noncomputable def Xc (k:Int) (app:Bool) (id:Ar) (dst:Int) (b:List Int):List Int:=LU k (Xa app id) (num 2 dst) b
structure Z1e (id:Ar):Prop where
 src:NP id.Src
 seq:KW id.Seq
 iv:KW id.IV
theorem Z1a {x:Int} (h:NP x):[(IntKind.wrap .u8 (x)),(IntKind.wrap .u8 ((Int.fdiv x (2 ^ (8:Nat)))))]=num 2 x:=by
 have z:=h.1;have C:=h.2;rw[Int.fdiv_eq_ediv_of_nonneg _ (by decide),IntKind.wrap_u8,IntKind.wrap_u8];rfl
theorem ZfI (k:Int) (app:Bool) (id:Ar) (z:Z1e id) (dst:Int) (C:NP dst) (b:List Int) (G:b.length<=50000):bY k app id dst b=some (Xc k app id dst b):=(AQ _ _).trans (by
 have key:Wp app id dst=some (Xa app id,num 2 dst):=by
  have h:∀kind,Fa kind->AY Wl (.b1 dst kind id)=some (Ny kind id.Src id.Seq id.IV,num 2 dst):=fun kind D=>(AQ _ _).trans (by
   simp only[Wl,dL D z.src z.seq z.iv,Z1a C,Ep,DN,SL,SM])
  refine(AQ _ _).trans ?_;cases app with
  | true=>exact h 1 ⟨by decide,by decide⟩
  | false=>exact h 2 ⟨by decide,by decide⟩
 simp only[Z4b,key,DN,Option.bind_some,Z7x k (Xa app id) (iF _ _ _ _) (num 2 dst) b (Iw _ _) (by rw[Ep];decide) G];rfl)
theorem Zn9 (a x:Bool):(bif a then some x else some false)=some (a&&x):=by cases a<;>rfl
def OE (a:Int):Bool:=decide (a>0)&&decide (a<=32767)
def lK (a:Int):Bool:=decide (a>=49152)
theorem xJ (a:Int):MI a=some (OE a):=(AQ _ _).trans (by simp only[wP,DN,Zn9,OE])
theorem Z5v (a:Int):U5 a=some (lK a):=(AQ _ _).trans rfl
def Xr (p:CG):Int:=if (p.Payload.length:Int)>16 then 4 else 0
def Xm (p:CG):Int:=if OE p.Src=false then 1 else if OE p.Cf=false/\lK p.Cf=false then 1 else if p.Payload=[] then 1 else Xr p
def checkN (p:CG):Int:=if p.C9<0 then 5 else if p.C9>=128 then 5 else if p.EL<0 then 5 else if p.EL>127 then 5 else if p.Seq>16777215 then 5 else Xm p
theorem len0 {α:Type} (l:List α):((l.length:Int)==0)=decide (l=[]):=by
 cases l with
 | nil=>rfl
 | cons a l=>simp;omega
theorem Z9w (p:Prop) [Decidable p] (a b:Int):(if p then some a else some b)=some (if p then a else b):=by split<;>rfl
theorem Z5t (p:CG):dO p=some (checkN p):=by
 have C:AY U2 (.b2 p)=some (Xr p):=(AQ _ _).trans (by simp only[U2,DN,Bool.cond_decide,Z9w,Xr]);have z:AY U2 (.b1 p)=some (Xm p):=(AQ _ _).trans (by
  simp only[U2,DN,xJ,Z5v,Option.bind_some,C,Xm,len0];cases OE p.Src<;>cases OE p.Cf<;>cases lK p.Cf<;>by_cases D:p.Payload=[]<;>simp[D])
 refine(AQ _ _).trans ?_;simp only[U2,DN,z,Bool.cond_decide,Z9w,checkN]
structure Vg (p:CG):Prop where
 O6:0<=p.C9/\p.C9<=127
 A8:0<=p.EL/\p.EL<=127
 seq:p.Seq<=16777215
 len:0<p.Payload.length/\p.Payload.length<=16
theorem Z7J {p:CG} (h:checkN p=0):Vg p:=by
 unfold checkN Xm Xr at h
 repeat' split at h
 all_goals first|(exfalso;revert h;decide)|skip
 rename_i a b c d e f g i j;have:=List.length_pos_iff.2 i;exact⟨by omega,by omega,by omega,by omega⟩
def ctl (p:CG):Int:=if p.Control then p.EL+128 else p.EL
theorem lJ {p:CG} (h:Vg p):0<=ctl p/\ctl p<256:=by
 have:=h.A8;unfold ctl;split<;>omega
theorem Z4i (p:CG) (h:Vg p):cZ p=some (ctl p):=(AQ _ _).trans (by
 have:=h.A8;simp only[Z4f,DN,ctl];rw[TN (by omega) (by omega),Sz .u8 8 (by decide) wraps_u8 7 (by decide) p.EL 128 (by decide) (by decide) (by decide) (by omega) (by show p.EL<128;omega)];cases p.Control<;>rfl)
def J6 (o:Dj):List Int:=[o.x0,o.x1,o.x2,o.x3,o.x4,o.x5]
theorem Z0a (a b:Dj):∃c,bV a b=some c/\J6 c=D7 (J6 a) (J6 b):=
 ⟨⟨bits .xor .u8 a.x0 b.x0,bits .xor .u8 a.x1 b.x1,bits .xor .u8 a.x2 b.x2,bits .xor .u8 a.x3 b.x3,bits .xor .u8 a.x4 b.x4,bits .xor .u8 a.x5 b.x5⟩,
  (AQ _ _).trans ((AQ QH (.b1 0 a b KY)).trans ((AQ QH (.b1 1 _ b KY)).trans ((AQ QH (.b1 2 _ b KY)).trans ((AQ QH (.b1 3 _ b KY)).trans ((AQ QH (.b1 4 _ b KY)).trans ((AQ QH (.b1 5 _ b KY)).trans ((AQ QH (.b1 6 _ b KY)).trans rfl))))))),rfl⟩
theorem mask6 (x:Int) (z:Dj):∃c,AY N9 (.b1 x 0 KY z)=some c/\J6 c=num 6 x:=by
 have h:∀j:Nat,j<=8->IntKind.wrap .u8 (Int.fdiv x (2 ^ (min (Int.toNat (Ad ((8:Int)*(j:Int)))) (IntKind.bits .u64))))=x / 256 ^ j % 256:=fun j C=>by rw[sh8 x j C,IntKind.wrap_u8]
 refine⟨_,(AQ N9 (.b1 x 0 _ z)).trans ((AQ N9 (.b1 x 1 _ _)).trans ((AQ N9 (.b1 x 2 _ _)).trans ((AQ N9 (.b1 x 3 _ _)).trans ((AQ N9 (.b1 x 4 _ _)).trans ((AQ N9 (.b1 x 5 _ _)).trans ((AQ N9 (.b1 x 6 _ _)).trans rfl)))))),?_⟩;refine Eq.trans (b:=[x / 256 ^ 0 % 256,x / 256 ^ 1 % 256,x / 256 ^ 2 % 256,x / 256 ^ 3 % 256,x / 256 ^ 4 % 256,x / 256 ^ 5 % 256]) ?_ ?_
 ·rw[<- h 0 (by decide),<- h 1 (by decide),<- h 2 (by decide),<- h 3 (by decide),<- h 4 (by decide),<- h 5 (by decide)];rfl
 ·simp only[num,Int.ediv_ediv_of_nonneg (show (0:Int)<=256 by decide)];simp[Int.ediv_ediv_of_nonneg]
def YS:List Int->List Int->List Int
 | [],_=>[]
 | n::z,b=>val (b.take n.toNat)::YS z (b.drop n.toNat)
def II (z:List Int):Nat:=(z.map Int.toNat).sum
theorem Z6Z (a b:List Int):II (a++b)=II a+II b:=by simp[II]
theorem take1 (b:List Int) (hb:Bytes b) (out sz:List Int) (n:Int) (m i:Nat) (L:Int) (hm:m<=8) (Y:n=m) (S:m<=b.length) (ho:out.length<=1000) (hi:i<=1000):∀d j:Nat,j+d=m ->
  AY KA (.b3 b out n (val (b.take j)) sz L i n j)=AY KA (.b2 (b.drop m) (out++[val (b.take m)]) sz L ((i+1:Nat):Int)):=by
 subst Y;intro d;induction d with
 | zero=>
  intro j R;obtain rfl:j=m:=by omega
  refine(AQ _ _).trans ?_;have D:decide ((j:Int)<=(b.length:Int))=true:=decide_eq_true (by omega);have M:(b.drop j).take (b.length - j)=b.drop j:=List.take_of_length_le (by rw[List.length_drop];omega);simp(disch:=omega) only[KA,Int.lt_irrefl,D,M,DN,SL,SM]
 | succ d ih=>
  intro j R;have G : j<m:=by omega
  have z:j<b.length:=by omega
  have hx:=hb.get j z;have I:=Z13 (hb.take j);have J:=YI (hb.take (j+1)) (by rw[List.length_take];omega);have e:val (b.take (j+1))=val (b.take j)+256 ^ j*b[j]:=by
   rw[List.take_add_one,List.getElem?_eq_getElem z,val_append];simp[val,Nat.min_eq_left (show j<=b.length by omega)]
  rw[List.length_take,Nat.min_eq_left (by omega)]at I;rw[e]at J;have C:0<=256 ^ j*b[j]:=Int.mul_nonneg (Int.le_of_lt (by exact_mod_cast Nat.pow_pos (by decide))) hx.1;rw[<- ih (j+1) (by omega)];refine(AQ _ _).trans ?_;have D:decide (0<=Ad (8*(j:Int)))=true:=decide_eq_true (by rw[Ez (by omega) (by omega)];omega);have Q:bits .or .u64 (val (b.take j)) (IntKind.wrap .u64 ((IntKind.wrap .u64 (b[j]))*2 ^ (min (Int.toNat (Ad ((8:Int)*(j:Int)))) (IntKind.bits .u64))))=val (b.take (j+1)):=by
   rw[Ez (by omega) (by omega),show Int.toNat (8*(j:Int))=8*j by omega,show min (8*j) (IntKind.bits .u64)=8*j from Nat.min_eq_left (by show 8*j<=64;omega),TG,wu64 (n:=b[j]) (by omega) (by omega),Int.mul_comm b[j],wu64 C (by omega),e];refine Sz .u64 64 (by decide) wraps_u64 (8*j) (by omega) _ _ C ?_ (by show _<(18446744073709551616:Int);omega) I.1 ?_
   ·rw[TG];exact Int.mul_emod_right _ _
   ·rw[TG];exact I.2
  simp(disch:=omega) only[KA,G,z,D,Q,DN,SL,SM]
theorem take2 (sz:List Int):∀(ns done b out:List Int),sz=done++ns->Bytes b->(∀n∈ns,1<=n/\n<=8)->II ns<=b.length->out.length=done.length->sz.length<=100->b.length<=100000 ->
  AY KA (.b2 b out sz sz.length done.length)=some (out++YS ns b,b.drop (II ns),0):=by
 intro ns;induction ns with
 | nil=>
  intro done b out C hb J S R Q D;refine(AQ _ _).trans ?_;rw[List.append_nil]at C;subst C;simp only[KA,Int.lt_irrefl,DN,SL,SM];rw[PV [b] (by simpa using D) (by simp)];simp[YS,II]
 | cons n ns Y=>
  intro done b out C hb J S R Q D;have I:done.length<sz.length:=by rw[C];simp
  have G:sz[done.length]=n:=by simp[C]
  have h1:=J n List.mem_cons_self;have z:II (n::ns)=n.toNat+II ns:=by simp[II]
  rw[z]at S;refine(AQ _ _).trans ?_;simp(disch:=omega) only[KA,I,G,DN,SL,SM];have:=take1 b hb out sz n n.toNat done.length sz.length (by omega) (by omega) (by omega) (by omega) (by omega) n.toNat 0 (by omega);simp only[List.take_zero,val]at this;refine this.trans ?_;have M:=Y (done++[n]) (b.drop n.toNat) (out++[val (b.take n.toNat)]) (by simp[C]) (hb.drop _) (fun m hm=>J m (List.mem_cons_of_mem _ hm)) (by rw[List.length_drop];omega) (by simp[R]) Q (by rw[List.length_drop];omega);rw[List.length_append]at M;refine M.trans ?_;rw[z,YS,List.drop_drop,List.append_assoc];rfl
theorem ZaU (sz b:List Int) (hb:Bytes b) (D:∀n∈sz,1<=n/\n<=8) (J:II sz<=b.length) (I:sz.length<=100) (z:b.length<=100000):RS b sz=some (YS sz b,b.drop (II sz),0):=(AQ _ _).trans (by
 simp only[KA,DN,SL,SM];have key:=Uz (fun(s:Int) i=>AY KA (.b1 b sz s sz sz.length i)) sz (fun s x=>s+x) (fun s=>if (b.length:Int)<s then some ([],[],3) else AY KA (.b2 b [] sz sz.length 0))
  (fun i s=>s=II (sz.take i)) (fun i s h hi=>by
   have C:=D sz[i] (List.getElem_mem h);have e:II (sz.take (i+1))=II (sz.take i)+sz[i].toNat:=by
    rw[List.take_add_one,List.getElem?_eq_getElem h,Z6Z];rfl
   have Q:II (sz.take (i+1))<=II sz:=by
    have G:=Z6Z (sz.take (i+1)) (sz.drop (i+1));rw[List.take_append_drop]at G;omega
   refine⟨?_,by omega⟩;refine(AQ _ _).trans ?_;simp(disch:=omega) only[KA,h,Z9D _ C.1 C.2,DN,SL,SM];rw[Ez (by omega) (by omega)])
  (fun s M =>(AQ _ _).trans (by
   simp only[KA,Int.lt_irrefl,DN,SL,SM]
   by_cases hc:(b.length:Int)<s
   ·simp[hc]
   ·simp[hc])) 0 (by simp[II])
 rw[key.1,key.2,List.take_length,if_neg (by omega)];exact take2 sz sz [] b [] rfl hb D J rfl I z)
noncomputable def YR (k:Bh) (iv:Int) (z:List Int):List Int:=num 6 (KI k.Hide (⟨#[104,105,100,101]⟩:ByteArray) [iv,val (z.take 7)])
def P9 (p:CG):List Int:=[ctl p]++num 3 p.Seq++num 2 p.Src
noncomputable def Ig (k:Bh) (p:CG):List Int:=LU k.LC (Ny 0 p.Src p.Seq p.IV) [ctl p] (num 2 p.Cf++p.Payload)
noncomputable def JM (k:Bh) (p:CG):List Int:=[p.C9+p.IV % 2*128]++D7 (P9 p) (YR k p.IV (Ig k p))++Ig k p
noncomputable def mJ (k:Bh) (p:CG):List Int×Int:=if checkN p=0 then (if p.C9=k.C9 then (JM k p,0) else ([],17)) else ([],checkN p)
structure lW (p:CG):Prop where
 iv:KW p.IV
 seq:KW p.Seq
 src:NP p.Src
 dst:NP p.Cf
theorem yT (k:Bh) (p:CG):(Ig k p).length=p.Payload.length+6:=by rw[Ig,ZE,List.length_append,Ep];omega
theorem Zmi {iv:Int} {s:List Int} (hi:KW iv) (C:Bytes s):(∀x∈[iv,val (s.take 7)],Fa x)/\IntKind.wrap .u64 iv=iv:=by
 have D:=hi.1;have G:=hi.2;refine⟨fun x z=>?_,wu64 (by omega) (by omega)⟩;simp only[List.mem_cons,List.not_mem_nil,or_false]at z;rcases z with rfl|rfl
 ·exact⟨by omega,by omega⟩
 ·exact YI (C.take 7) (by rw[List.length_take];omega)
theorem Z6G (p:CG) (h:Vg p) (z:lW p):∃o,vH p=some o/\J6 o=P9 p:=by
 refine⟨_,(AQ _ _).trans (by simp only[Z4L,DN,Z4i p h,Option.bind_some];rfl),?_⟩;have e:∀a:Int,∀n:Nat,IntKind.wrap .u8 (Int.fdiv a (2 ^ n))=a / 2 ^ n % 256:=fun a n=>by rw[Int.fdiv_eq_ediv_of_nonneg _ (Int.le_of_lt (by exact_mod_cast Nat.pow_pos (by decide))),IntKind.wrap_u8]
 show [ctl p,_,_,_,_,_]=_;simp only[e,IntKind.wrap_u8];simp only[P9,num,List.cons_append,List.nil_append];rw[Int.ediv_ediv_of_nonneg (by decide)];rfl
theorem Z5E (k:Bh) (iv:Int) (hi:KW iv) (s:List Int) (z:Bytes s) (I:7<=s.length) (J : s.length<=1000):∃c,eG k iv s=some c/\J6 c=YR k iv s:=by
 obtain⟨Q,G⟩:=Zmi hi z;obtain⟨c,C,D⟩:=mask6 (KI k.Hide (⟨#[104,105,100,101]⟩:ByteArray) [iv,val (s.take 7)]) KY;refine⟨c,(AQ _ _).trans ?_,D⟩;have R:RS s [7]=some ([val (s.take 7)],s.drop 7,0):=ZaU [7] s z (fun n M=>by rw[List.mem_singleton.1 M];decide) (by simpa[II]using I) (by simp) (by omega);simp only[N9,R,G,DN,Option.bind_some,List.length_cons,List.length_nil,beq_self_eq_true,cond_true];rw[show decide ((0:Int)<=0/\(0:Int)<(((0+1:Nat):Nat):Int))=true from rfl,show ([val (s.take 7)])[Int.toNat 0]? = some (val (s.take 7)) from rfl];simp only[cond_true,Option.bind_some];rw[Z65 k.Hide (⟨#[104,105,100,101]⟩:ByteArray) [iv,val (s.take 7)] (by decide) Q (by simp)];exact C
theorem and1 (x:Int) (h:KW x):bits .and .u32 x 1=x % 2:=bits_mask .u32 32 (by decide) wraps_u32 1 (by decide) x h.1 h.2
theorem headB (O6 iv:Int) (h:0<=O6/\O6<=127) (hi:KW iv):bits .or .u8 (IntKind.wrap .u8 O6) (IntKind.wrap .u8 ((IntKind.wrap .u8 (bits .and .u32 iv 1))*2 ^ (7:Nat)))=O6+iv % 2*128:=by
 have:=hi.1;rw[and1 iv hi,TN (n:=O6) (by omega) (by omega),TN (n:=iv % 2) (by omega) (by omega),show (2:Int) ^ (7:Nat)=128 from rfl,TN (by omega) (by omega)];exact Sz .u8 8 (by decide) wraps_u8 7 (by decide) O6 (iv % 2*128) (by omega) (by show iv % 2*128 % 128=0;omega) (by show _<(256:Int);omega) h.1 (by show O6<128;omega)
theorem bne0 (x:Int):(x != 0) = !decide (x=0):=by cases h:decide (x=0)<;>simp_all
theorem ZgD (k:Bh) (p:CG) (z:lW p):Wx k p=some (mJ k p):=(AQ _ _).trans (by
 simp only[Z4v,Z5t,bne0,DN,Option.bind_some,mJ]
 by_cases hc:checkN p=0
 ·have D:=Z7J hc;simp only[hc,decide_true,Bool.not_true,cond_false,if_true]
  by_cases G:p.C9=k.C9
  ·rw[show (p.C9 != k.C9)=false by simp[G],if_pos G];have hl:=yT k p;have R:=D.len;obtain⟨o,ho,M⟩:=Z6G p D z;obtain⟨c,hm,J⟩:=Z5E k p.IV z.iv (Ig k p) (zA _ _ _ _) (by omega) (by omega);obtain⟨x,hx,Q⟩:=Z0a o c;have C:XR k.LC (Ny 0 p.Src p.Seq p.IV) [ctl p] (num 2 p.Cf++p.Payload)=some (Ig k p):=Z7x _ _ (iF _ _ _ _) _ _ (Bytes.cons (lJ D) Bytes.nil) (by simp) (by rw[List.length_append,Ep];omega);have Y:Hw [num 2 p.Cf,p.Payload]=some (num 2 p.Cf++p.Payload):=by rw[PV _ (by simp[Ep];omega) (by simp)];simp
   have I:Hw [[p.C9+p.IV % 2*128],List.take 6 [x.x0,x.x1,x.x2,x.x3,x.x4,x.x5],Ig k p]=some (JM k p):=by
    have S:List.take 6 [x.x0,x.x1,x.x2,x.x3,x.x4,x.x5]=J6 x:=rfl;rw[S,PV _ (by simp[J6,hl];omega) (by simp)];simp[JM,Q,M,J]
   simp only[cond_false,Z1a z.dst,Ep,List.length_cons,List.length_nil,beq_self_eq_true,cond_true,Y,Option.bind_some,dL (kind:=0) ⟨by decide,by decide⟩ z.src z.seq z.iv,Z4i p D,C,ho,hm,hx,headB p.C9 p.IV D.O6 z.iv,I]
  ·rw[show (p.C9 != k.C9)=true by simp[G],if_neg G];rfl
 ·rw[if_neg hc,decide_eq_false hc];rfl)
theorem jW (x:List Int) (h:x.length<=100000):Hw [x]=some x:=by
 rw[PV [x] (by simpa using h) (by simp)];simp
theorem ZnC {R:Type} (F:Int->Option R) (n:Nat) (r:Option R) (C:∀i:Nat,i<n->F i=F ((i+1:Nat):Int)) (z:F (n:Int)=r):F 0=r:=by
 have key:∀d i:Nat,i+d=n->F i=r:=by
  intro d;induction d with
  | zero=>intro i hi;rw[show i=n by omega];exact z
  | succ d D=>intro i hi;exact(C i (by omega)).trans (D (i+1) (by omega))
 exact key n 0 (Nat.zero_add n)
theorem ZnA (xs:List Int):Le.bytesOf (xs.map (U.enc 5))=some (xs.map fun n=>UInt8.ofNat n.toNat):=by
 induction xs with
 | nil=>rfl
 | cons x xs z=>
  rw[List.map_cons];show (match Le.byteOf (U.enc 5 x),Le.bytesOf (xs.map (U.enc 5)) with|some b,some bs=>some (b::bs)|_,_=>none)=_;rw[z];rfl
theorem okB (xs:List Int) (h:xs.length<=1000000):Nq U 5 xs=true:=by
 unfold Nq;rw[ZnA];exact decide_eq_true (by rw[List.length_map];exact Nat.le_trans (Nat.le_trans h (by decide)) VD)
theorem GH {α:Type} [BEq α] [ReflBEq α] (x:α):(x != x)=false:=by simp[bne]
theorem z0:decide ((0:Int)<((0:Nat):Int))=false:=rfl
theorem V4:KW 0:=⟨by decide,by decide⟩
theorem G5 (n k:Nat) (h:n<=1000000) (z:k<=1000):n*k<=lim/\n<=maxLen:=
 ⟨Nat.le_trans (Nat.le_trans (Nat.mul_le_mul h z) (by decide)) YH,Nat.le_trans (Nat.le_trans h (by decide)) VD⟩
theorem Z19 (l:List Int) (h:l.length<=1000000):UF l=some ⟨l⟩:=if_pos (G5 _ _ h (by decide))
theorem Z8X (l:List Int) (h:l.length<=1000000):Lu l=some ⟨l⟩:=if_pos (G5 _ _ h (by decide))
theorem Z0z (l:List Ar) (h:l.length<=1000000):QC l=some ⟨l⟩:=if_pos (G5 _ _ h (by decide))
theorem Z8R (l:List Ar) (h:l.length<=1000000):O7 l=some ⟨l⟩:=if_pos (G5 _ _ h (by decide))
theorem ZlI (l:List DJ) (h:l.length<=1000000):TW l=some ⟨l⟩:=if_pos (G5 _ _ h (by decide))
theorem ZlH (l:List D9) (h:l.length<=1000000):TY l=some ⟨l⟩:=if_pos (G5 _ _ h (by decide))
theorem ZoG (l:List Gh) (h:l.length<=1000000):Tt l=some ⟨l⟩:=if_pos (G5 _ _ h (by decide))
theorem ZqF (l:List BL) (h:l.length<=1000000):UC l=some ⟨l⟩:=if_pos (G5 _ _ h (by decide))
@[reducible] noncomputable def nv (a:Int) (r f:Bool) (C R:List Ar) (O:List BL) (s st:Int):Ae:=⟨a,1,2,⟨0,Bv 3,I8⟩,ED,s,r,f,[],C,R,⟨[],[]⟩,Gu,En,O,st,true⟩
structure Y5 (O:List BL):Prop where
 len:O.length<=50
 small:∀x∈O,x.Bytes.length<=1000
theorem ZnE (x:BL):(⟨x.Em,x.Bytes,x.To⟩:BL)=x:=rfl
theorem Z14 (a:Int) (r f:Bool) (C R:List Ar) (O:List BL) (s st:Int) (J:C.length<=1000) (M:R.length<=1000) (G:Y5 O):QT (nv a r f C R O s st)=some ⟨nv a r f C R O s st⟩:=by
 have Q:=G.len;have k4:∀z,AY Kq (.b4 O O.length 0 (nv a r f C R O s st) z)=some ⟨nv a r f C R O s st⟩:=fun z=>
  ZnC (fun i=>AY Kq (.b4 O O.length i (nv a r f C R O s st) z)) O.length _
   (fun i hi=>(AQ _ _).trans (by
    have I:=G.small O[i] (List.getElem_mem hi);simp(disch:=omega) only[Kq,hi,Z19 _ (Nat.le_trans I (by decide)),ZnE,List.set_getElem_self,Nat.zero_le,Bool.and_self,DN,SL,SM]))
   ((AQ _ _).trans (by simp only[Kq,Int.lt_irrefl,Bool.and_self,DN,SL,SM]))
 have D:=Z8X [] (Nat.zero_le _);have k3:∀z,AY Kq (.b3 [] ((0:Nat):Int) 0 (nv a r f C R O s st) z)=some ⟨nv a r f C R O s st⟩:=fun z=>(AQ _ _).trans (by
  simp only[Kq,z0,show En.AO=[] from rfl,D,ZqF O (by omega),DN,Option.bind_some,cond_false,cond_true,Bool.and_self];exact k4 z)
 have k2:∀z,AY Kq (.b2 [] ((0:Nat):Int) 0 (nv a r f C R O s st) z)=some ⟨nv a r f C R O s st⟩:=fun z=>(AQ _ _).trans (by
  simp only[Kq,z0,show Gu.AO=[] from rfl,show Gu.Aa=[] from rfl,D,ZoG [] (Nat.zero_le _),DN,Option.bind_some,cond_false,cond_true,Bool.and_self,List.length_nil];exact k3 z)
 have k1:∀z,AY Kq (.b1 [] ((0:Nat):Int) 0 (nv a r f C R O s st) z)=some ⟨nv a r f C R O s st⟩:=fun z=>(AQ _ _).trans (by
  simp only[Kq,z0,ZlH [] (Nat.zero_le _),DN,Option.bind_some,cond_false,cond_true,Bool.and_self,List.length_nil];exact k2 z)
 refine(AQ _ _).trans ?_;simp only[Kq,D,Z0z C (by omega),Z8R R (by omega),ZlI [] (Nat.zero_le _),DN,Option.bind_some,cond_true,Bool.and_self,List.length_nil];exact k1 _
theorem lF:UR ⟨[],[]⟩=some ⟨⟨[],[]⟩⟩:=by
 have b2:∀z,AY UU (.b2 ((0:Nat):Int) 0 z ⟨[],[]⟩)=some ⟨⟨[],[]⟩⟩:=fun z=>(AQ _ _).trans (by
  simp only[UU,z0,DN,cond_false,cond_true,Bool.and_self])
 have b1:∀z,AY UU (.b1 ((0:Nat):Int) 0 z ⟨[],[]⟩)=some ⟨⟨[],[]⟩⟩:=fun z=>(AQ _ _).trans (by
  simp only[UU,z0,DN,cond_false,cond_true,Bool.and_self,List.length_nil];exact b2 z)
 refine(AQ _ _).trans ?_;have c:∀k:Nat,decide ((0:Int)<=((0:Nat):Int)/\((0:Nat):Int)<=((0:Nat):Int)/\Int.toNat ((0:Nat):Int)*k<=lim/\((0:Nat):Int)<=(↑maxLen:Int))=true:=fun k=>
  decide_eq_true ⟨by decide,by decide,by rw[Int.toNat_natCast,Nat.zero_mul];exact Nat.zero_le _,Int.natCast_nonneg _⟩
 simp only[UU,List.length_nil,c,DN,cond_true];exact b1 _
def Du (app:Bool) (S:List Int):Bc:=⟨false,false,app,0,0,0,0,0,false,S⟩
theorem Za1 (S:List Int):bT (Du true S)=some false:=(AQ _ _).trans rfl
theorem Z0s (S:List Int) (h:1<=S.length/\S.length<=15):We (Du true S)=some 0:=by
 have D:uK (Du true S)=some true:=(AQ _ _).trans (by
  simp only[Z4d,Za1,DN,Option.bind_some,cond_false];rfl)
 have b3:AY QJ (.b3 1 15 (Du true S))=some 0:=(AQ _ _).trans (by
  have z:decide (((Du true S).Bytes.length:Int)<1)=false:=decide_eq_false (by show ¬(S.length:Int)<1;omega);have C:decide (((Du true S).Bytes.length:Int)>15)=false:=decide_eq_false (by show ¬(S.length:Int)>15;omega);simp only[QJ,z,C,DN,cond_false])
 have b2:AY QJ (.b2 1 15 (Du true S))=some 0:=(AQ _ _).trans (by
  simp only[QJ,D,DN,Option.bind_some,Bool.not_true,cond_false];exact b3)
 have b1:AY QJ (.b1 1 15 (Du true S))=some 0:=(AQ _ _).trans (by
  simp only[QJ,show (Du true S).Control=false from rfl,DN,cond_false];exact b2)
 refine(AQ _ _).trans ?_;simp only[QJ,show (Du true S).Control=false from rfl,show (Du true S).Ox=false from rfl,DN,cond_false];exact b1
theorem Zrm (S:List Int) (h:1<=S.length/\S.length<=15):sK (Du true S)=some (64::S,0):=by
 have z:Wj true 64=some 64:=(AQ _ _).trans rfl;have D:MK [(⟨1,64⟩:DF)]=some ([64],0):=by
  rw[YP _ (fun f z=>by
   rw[List.mem_singleton.1 z];exact⟨by decide,by decide,by decide,by decide⟩) (by simp[LD,Ep]) (by simp)]
  rfl
 have C:Hw [[64],S]=some (64::S):=by
  rw[PV _ (by simp;omega) (by simp)];simp
 have b1:AY bM (.b1 [(⟨1,64⟩:DF)] (Du true S))=some (64::S,0):=(AQ _ _).trans (by
  simp only[bM,D,show (Du true S).Bytes=S from rfl,C,DN,Option.bind_some,cond_true])
 refine(AQ _ _).trans ?_;simp only[bM,Z0s S h,Za1,GH,show (Du true S).Control=false from rfl,show (Du true S).Ox=false from rfl,show (Du true S).App=true from rfl,z,DN,Option.bind_some,cond_false];exact b1
theorem ZqX (S:List Int) (h:1<=S.length/\S.length<=15):bG false (64::S)=some (Du true S,0):=by
 have c0:decide ((0:Int)<=0/\(0:Int)<((S.length+1:Nat):Int))=true:=decide_eq_true (by omega);have C:decide ((0:Int)<=1/\(1:Int)<=((S.length+1:Nat):Int))=true:=decide_eq_true (by omega);have D:(((S.length+1:Nat):Int)==0)=false:=beq_eq_false_iff_ne.2 (by omega);have I:(bits .andNot .u8 64 192 != 0)=false:=by decide
 have J:(bits .and .u8 64 128 != 0)=false:=by decide
 have M:(bits .and .u8 64 64 != 0)=true:=by decide
 have G:(((64:Int)::S).drop (Int.toNat 1)).take (S.length+1 - Int.toNat 1)=S:=by
  have:((64:Int)::S).drop (Int.toNat 1)=S:=rfl;rw[this,List.take_of_length_le (by show _<=S.length+1 - 1;omega)]
 have g0:((64:Int)::S)[Int.toNat 0]? = some 64:=rfl;have Q:sS (64::S)=some (Du true S,0):=(AQ _ _).trans (by
  simp only[Z3M,List.length_cons,c0,C,g0,I,J,M,G,jW S (by omega),DN,Option.bind_some,cond_true,cond_false,Bool.not_false,List.length_nil,beq_self_eq_true];rfl)
 have b2:∀z,AY WY (.b2 0 z (Du true S))=some (Du true S,0):=fun z=>(AQ _ _).trans rfl;have b1:∀z,AY WY (.b1 (64::S) z)=some (Du true S,0):=fun z=>(AQ _ _).trans (by
  simp only[WY,Q,Z0s S h,DN,Option.bind_some,beq_self_eq_true,cond_true];exact b2 z)
 refine(AQ _ _).trans ?_;simp only[WY,List.length_cons,D,DN,cond_false];exact b1 _
noncomputable def Dl (d p:Int) (app:Bool) (a dst:Int) (b:List Int):List Int:=Xc (if app=true then p else d) app ⟨a,0,0⟩ dst b
theorem Ux (d p:Int) (app:Bool) (a dst:Int) (b:List Int):(Dl d p app a dst b).length=b.length+4:=by rw[Dl,Xc,ZE]
theorem ZaI (k:Int):0<=(Bv k).C9/\(Bv k).C9<128:=by
 have:=zO k (⟨#[110,105,100]⟩:ByteArray) [];show 0<=KI k _ [] % 128/\KI k _ [] % 128<128;omega
structure Il (a A8:Int) (b:List Int):Prop where
 a0:0<a
 a1:a<=1000
 t0:1<=A8
 t1:A8<=127
 b0:b≠[]
 b1:b.length<=11
 b2:Bytes b
theorem Il.node {a A8:Int} {b:List Int} (h:Il a A8 b):OE a=true:=by
 have z:=h.a0;have C:=h.a1;unfold OE;rw[decide_eq_true (show a>0 from z),decide_eq_true (show a<=32767 by omega)];rfl
theorem Il.u16 {a A8:Int} {b:List Int} (h:Il a A8 b):NP a:=⟨Int.le_of_lt h.a0,by have:=h.a1;omega⟩
theorem Z1f:NP 65535:=⟨by decide,by decide⟩
noncomputable def mP (a A8:Int) (b:List Int):CG:=⟨0,(Bv 3).C9,false,A8,0,a,65535,64::Dl 1 2 true a 65535 b⟩
noncomputable def mE (a A8:Int) (b:List Int):List Int:=JM (Bv 3) (mP a A8 b)
theorem ZaO {a A8:Int} {b:List Int} (h:Il a A8 b):checkN (mP a A8 b)=0:=by
 have R:=ZaI 3;have J:=h.t0;have M:=h.t1;have Q:=h.b1;have z:¬(Bv 3).C9<0:=by omega
 have C:¬(Bv 3).C9>=128:=by omega
 have D:¬A8<0:=by omega
 have G:¬A8>127:=by omega
 have I:¬((((64:Int)::Dl 1 2 true a 65535 b).length:Nat):Int)>16:=by rw[List.length_cons,Ux];omega
 unfold checkN Xm Xr;show (if (Bv 3).C9<0 then _ else if (Bv 3).C9>=128 then _ else if A8<0 then _ else if A8>127 then _ else if (0:Int)>16777215 then _ else if OE a=false then _ else if OE 65535=false/\lK 65535=false then _ else if (64:Int)::Dl 1 2 true a 65535 b=[] then _ else if ((((64:Int)::Dl 1 2 true a 65535 b).length:Nat):Int)>16 then _ else _:Int)=0;rw[if_neg z,if_neg C,if_neg D,if_neg G,if_neg (by decide),if_neg (by rw[h.node];decide),if_neg (by decide),if_neg (List.cons_ne_nil _ _),if_neg I]
theorem Zbq {a A8:Int} {b:List Int} (h:Il a A8 b):lW (mP a A8 b):=⟨V4,V4,h.u16,Z1f⟩
theorem ZaC {a A8:Int} {b:List Int} (h:Il a A8 b):Wx (Bv 3) (mP a A8 b)=some (mE a A8 b,0):=by
 have z:mJ (Bv 3) (mP a A8 b)=(mE a A8 b,0):=by
  unfold mJ;rw[if_pos (ZaO h),if_pos (show (mP a A8 b).C9=(Bv 3).C9 from rfl)];rfl
 rw[ZgD (Bv 3) (mP a A8 b) (Zbq h),z]
theorem Z1p:Uk ED=some 0:=(AQ _ _).trans (by
 have z:∀v,AY yJ (.b2 v)=some v.Index:=fun v=>(AQ _ _).trans rfl;simp only[yJ,show ED.GI=false from rfl,z,DN,cond_false])
theorem Z7T (w:Je) (o:Bh) (h:w.Node.Keys=⟨0,Bv 3,o⟩):Tc w=some (Bv 3):=by
 have z:O9 ⟨0,Bv 3,o⟩=some [Bv 3]:=(AQ _ _).trans rfl;have C:uD ⟨0,Bv 3,o⟩=some (Bv 3):=(AQ _ _).trans (by
  simp only[Z49,z,DN,Option.bind_some];rfl)
 exact(AQ _ _).trans (by simp only[Z2U,h,C,DN,Option.bind_some])
theorem Z96 (dst:Int):dR Gu dst=some false:=(AQ _ _).trans rfl
theorem Zu2 (B:Int) (b:List Int) (h:Il B 127 b) (r f:Bool) (now:Int) :
  qQ (Bv 3) ⟨B,65535,127,Du true (Dl 1 2 true B 65535 b)⟩ ⟨nv B r f [] [] [] 0 0,now⟩ []=some ⟨⟨nv B r f [] [] [⟨now,mE B 127 b,0⟩] 1 100,now⟩,[]⟩:=by
 have J:=Ux 1 2 true B 65535 b;have hb:=h.b1;have I:qP ⟨nv B r f [] [] [] 0 0,now⟩ []=some ⟨0,⟨nv B r f [] [] [] 1 100,now⟩,[]⟩:=by
  have b1:AY qN (.b1 ⟨nv B r f [] [] [] 0 100,now⟩ [])=some ⟨0,⟨nv B r f [] [] [] 1 100,now⟩,[]⟩:=(AQ _ _).trans rfl;refine(AQ _ _).trans ?_;simp only[qN,beq_self_eq_true,Bool.and_self,DN,SL,SM];exact b1
 have z:rH (Bv 3) (mP B 127 b) now ⟨nv B r f [] [] [] 1 100,now⟩ []=some ⟨true,⟨nv B r f [] [] [⟨now,mE B 127 b,0⟩] 1 100,now⟩,[]⟩:=(AQ _ _).trans (by
  simp(disch:=omega) only[Z3u,ZaC h,GH,Bool.and_self,DN,SL,SM])
 have D:∀n p l,n.AB=Gu->qJ p l ⟨n,now⟩ []=some ⟨⟨n,now⟩,[]⟩:=fun n p l G=>(AQ _ _).trans (by
  simp only[Z36,G,Z96,Bool.and_self,DN,SL,SM])
 have b1:AY Yy (.b1 0 (64::Dl 1 2 true B 65535 b) ⟨nv B r f [] [] [] 1 100,now⟩ [] (Bv 3) ⟨B,65535,127,Du true (Dl 1 2 true B 65535 b)⟩)=some ⟨⟨nv B r f [] [] [⟨now,mE B 127 b,0⟩] 1 100,now⟩,[]⟩:=(AQ _ _).trans (by
  have C:(⟨0,(Bv 3).C9,(Du true (Dl 1 2 true B 65535 b)).Control,127,0,B,65535,64::Dl 1 2 true B 65535 b⟩:CG)=mP B 127 b:=rfl;simp only[Yy,Z1p,C,z,D _ _ _ (show (nv B r f [] [] [⟨now,mE B 127 b,0⟩] 1 100).AB=Gu from rfl),Bool.and_self,DN,SL,SM])
 refine(AQ _ _).trans ?_;have c:decide ((0:Int)>16777215)=false:=rfl;simp only[Yy,I,Zrm (Dl 1 2 true B 65535 b) ⟨by omega,by omega⟩,GH,c,b1,Bool.and_self,DN,SL,SM]
theorem Zte (B:Int) (b:List Int) (h:Il B 127 b) (r f:Bool) (now:Int) :
  rZ 65535 true 127 b ⟨nv B r f [] [] [] 0 0,now⟩ []=some ⟨0,⟨nv B r f [] [] [⟨now,mE B 127 b,0⟩] 1 100,now⟩,[],[],[]⟩:=by
 have hS:=Ux 1 2 true B 65535 b;have hb:=h.b1;have C:bY 2 true ⟨B,0,0⟩ 65535 b=some (Dl 1 2 true B 65535 b):=ZfI 2 true ⟨B,0,0⟩ ⟨h.u16,V4,V4⟩ 65535 Z1f b (by omega);have hg:MI 65535=some false:=xJ _;have G:U5 65535=some true:=Z5v _;have S:MI B=some true:=by rw[xJ,h.node]
 have J:sU ⟨[],[]⟩ ⟨B,65535,true,127,⟨B,0,0⟩,Dl 1 2 true B 65535 b⟩=some 0:=by
  have M:decide (((Dl 1 2 true B 65535 b).length:Int)>384)=false:=decide_eq_false (by omega);have Q:decide (((Dl 1 2 true B 65535 b).length:Int)<=15)=true:=decide_eq_true (by omega);have d3:(((Dl 1 2 true B 65535 b).length:Int)==0)=false:=beq_eq_false_iff_ne.2 (by omega);have hc:uB (Dl 1 2 true B 65535 b).length=some 1:=(AQ _ _).trans (by
   have q1:decide (((Dl 1 2 true B 65535 b).length:Int)<1)=false:=decide_eq_false (by omega);have b1:AY cO (.b1 (Dl 1 2 true B 65535 b).length)=some 1:=(AQ _ _).trans (by simp only[cO,Q,DN,cond_true]);simp only[cO,q1,M,b1,DN,cond_false])
  have b1:AY bI (.b1 (Dl 1 2 true B 65535 b).length ⟨[],[]⟩ ⟨B,65535,true,127,⟨B,0,0⟩,Dl 1 2 true B 65535 b⟩)=some 0:=(AQ _ _).trans (by
   simp only[bI,M,hc,Q,DN,Option.bind_some,cond_false,cond_true];rfl)
  refine(AQ _ _).trans ?_;simp only[bI,hg,G,S,d3,b1,DN,Option.bind_some,Bool.not_true,Bool.not_false,cond_false,cond_true]
 have D:uS ⟨[],[]⟩ ⟨B,65535,true,127,⟨B,0,0⟩,Dl 1 2 true B 65535 b⟩ now=some (⟨[],[]⟩,[Du true (Dl 1 2 true B 65535 b)],0):=(AQ _ _).trans (by
  have Q:decide (((Dl 1 2 true B 65535 b).length:Int)<=15)=true:=decide_eq_true (by omega);simp only[Z4m,J,lF,GH,Q,jW _ (show (Dl 1 2 true B 65535 b).length<=100000 by omega),DN,Option.bind_some,cond_false,cond_true];rfl)
 have I:∀w:Je,W9 w true=some w.Node.App:=fun w=>(AQ _ _).trans rfl;have z:=Zu2 B b h r f now;have R:∀n,AY NZ (.b3 65535 127 [Du true (Dl 1 2 true B 65535 b)] ((1:Nat):Int) ((1:Nat):Int) ⟨n,now⟩ [] [] [])=some ⟨0,⟨n,now⟩,[],[],[]⟩:=fun n=>(AQ _ _).trans (by
  simp only[NZ,Int.lt_irrefl,Bool.and_self,DN,SL,SM])
 have b3:AY NZ (.b3 65535 127 [Du true (Dl 1 2 true B 65535 b)] ((1:Nat):Int) 0 ⟨nv B r f [] [] [] 0 0,now⟩ [] [] [])=some ⟨0,⟨nv B r f [] [] [⟨now,mE B 127 b,0⟩] 1 100,now⟩,[],[],[]⟩:=(AQ _ _).trans (by
  have e2:∀w:Je,w.Node.Keys=⟨0,Bv 3,I8⟩->Tc w=some (Bv 3):=fun w Y=>Z7T w _ Y;have d0:decide ((0:Int)<((1:Nat):Int))=true:=rfl;have M:decide ((0:Int)<=0/\(0:Int)<(([Du true (Dl 1 2 true B 65535 b)].length:Nat):Int))=true:=rfl;have g0:([Du true (Dl 1 2 true B 65535 b)])[Int.toNat 0]? = some (Du true (Dl 1 2 true B 65535 b)):=rfl;have Y:Ad ((0:Int)+1)=((1:Nat):Int):=rfl;simp only[NZ,d0,M,g0,Y,DN,Option.bind_some,cond_true,Bool.and_self];rw[e2 _ rfl];simp only[z,Option.bind_some,beq_self_eq_true,cond_true,Bool.and_self];exact R _)
 have b2:AY NZ (.b2 65535 true 127 b ⟨nv B r f [] [] [] 0 0,now⟩ [])=some ⟨0,⟨nv B r f [] [] [⟨now,mE B 127 b,0⟩] 1 100,now⟩,[],[],[]⟩:=(AQ _ _).trans (by
  have d4:decide ((b.length:Int)>380)=false:=decide_eq_false (by omega);simp only[NZ,len0,decide_eq_false h.b0,d4,Z1p,I,C,D,GH,DN,Option.bind_some,cond_false,cond_true,Bool.and_self,List.length_cons,List.length_nil,Nat.zero_add];exact b3)
 have b1:AY NZ (.b1 65535 true 127 b ⟨nv B r f [] [] [] 0 0,now⟩ [])=some ⟨0,⟨nv B r f [] [] [⟨now,mE B 127 b,0⟩] 1 100,now⟩,[],[],[]⟩:=(AQ _ _).trans (by
  have d5:decide ((127:Int)<0)=false:=rfl;have d6:decide ((127:Int)>127)=false:=rfl;simp only[NZ,d5,d6,b2,DN,cond_false,cond_true,Bool.and_self])
 refine(AQ _ _).trans ?_;simp only[NZ,hg,G,b1,DN,Option.bind_some,Bool.not_true,Bool.not_false,cond_false,cond_true,Bool.and_self]
theorem Z97 (a b:Nat) (D:a<256) (hb:b<256):bits .xor .u8 (a:Int) (b:Int)=((a ^^^ b:Nat):Int):=by
 have h:a ^^^ b<2 ^ 8:=Nat.xor_lt_two_pow (n:=8) D hb;have z : a % 2 ^ 8=a:=Nat.mod_eq_of_lt D;have C : b % 2 ^ 8=b:=Nat.mod_eq_of_lt hb;show IntKind.wrap .u8 (((BitVec.ofInt 8 (a:Int)) ^^^ (BitVec.ofInt 8 (b:Int))).toNat:Int)=_;simp only[BitVec.ofInt_natCast,BitVec.toNat_xor,BitVec.toNat_ofNat,z,C];exact TN (Int.natCast_nonneg _) (by exact_mod_cast h)
theorem xor8 {a b:Int} (C:0<=a/\a<256) (hb:0<=b/\b<256):bits .xor .u8 (bits .xor .u8 a b) b=a:=by
 obtain⟨x,rfl⟩:=Int.eq_ofNat_of_zero_le C.1;obtain⟨y,rfl⟩:=Int.eq_ofNat_of_zero_le hb.1;have D:x<256:=by exact_mod_cast C.2
 have z:y<256:=by exact_mod_cast hb.2
 rw[Z97 x y D z,Z97 (x ^^^ y) y (Nat.xor_lt_two_pow (n:=8) D z) z,Nat.xor_assoc,Nat.xor_self,Nat.xor_zero]
theorem Zy:∀{a b:List Int},Bytes a->Bytes b->a.length<=b.length->D7 (D7 a b) b=a
 | [],_,_,_,_=>by simp[D7]
 | x::a,[],_,_,h=>absurd h (by simp)
 | x::a,y::b,D,hb,h=>by
  show bits .xor .u8 (bits .xor .u8 x y) y::D7 (D7 a b) b=x::a;rw[xor8 (D x List.mem_cons_self) (hb y List.mem_cons_self),Zy (fun z C=>D z (List.mem_cons_of_mem _ C)) (fun z C=>hb z (List.mem_cons_of_mem _ C)) (by simpa using h)]
theorem Z7p (k z:Int) (hx:Fa z) (C p:List Int) (hh:Bytes C) (S:Bytes p) (R:C.length<=1000) (hm:p.length<=50000):XP k z C (LU k z C p)=some (p,0):=(AQ _ _).trans (by
 have D:=ZE k z C p;have hc:(D7 p (Ie k z p.length)).length=p.length:=by rw[VE,fK,Nat.min_self]
 have Y:Ad ((((p.length+4:Nat)):Int) - 4)=(p.length:Int):=by rw[Ez (by omega) (by omega)];omega
 have J:(LU k z C p).take p.length=D7 p (Ie k z p.length):=by rw[LU,List.take_append_of_le_length (by omega),List.take_of_length_le (by omega)]
 have M:(LU k z C p).drop p.length=Q8 k z C (D7 p (Ie k z p.length)):=by
  rw[LU,List.drop_append_of_le_length (by omega),List.drop_of_length_le (by omega),List.nil_append]
 have Q:(Q8 k z C (D7 p (Ie k z p.length))).take (p.length+4 - p.length)=Q8 k z C (D7 p (Ie k z p.length)):=List.take_of_length_le (by rw[iV];omega);have t1:=Z7l k z hx C (D7 p (Ie k z p.length)) hh (zC _ _) R (by omega);have t2:=Z62 k z p.length (by omega);have t3:=Z6j (D7 p (Ie k z p.length)) (Ie k z p.length) (by omega);have o1:=okB (Q8 k z C (D7 p (Ie k z p.length))) (by rw[iV];omega);have G:decide ((p.length:Int)<0)=false:=decide_eq_false (by omega);have I:decide (0<=(p.length:Int)/\(p.length:Int)<=((p.length+4:Nat):Int))=true:=decide_eq_true (by omega);simp only[Z7A,D,Y,G,I,Int.toNat_natCast,List.drop_zero,Nat.sub_zero,J,M,Q,t1,t2,t3,o1,DN,Option.bind_some,cond_false,cond_true,beq_self_eq_true,Bool.not_true,Zy S (Zib k z p.length) (Nat.le_of_eq (fK _ _ _).symm)])
theorem ZoC (app:Bool) (id:Ar) (z:Z1e id) (dst:Int) (C:NP dst):Wp app id dst=some (Xa app id,num 2 dst):=by
 have h:∀kind,Fa kind->AY Wl (.b1 dst kind id)=some (Ny kind id.Src id.Seq id.IV,num 2 dst):=fun kind D=>(AQ _ _).trans (by
  simp only[Wl,dL D z.src z.seq z.iv,Z1a C,Ep,DN,SL,SM])
 refine(AQ _ _).trans ?_;cases app with
 | true=>exact h 1 ⟨by decide,by decide⟩
 | false=>exact h 2 ⟨by decide,by decide⟩
theorem Zfg (k:Int) (app:Bool) (id:Ar) (z:Z1e id) (dst:Int) (C:NP dst) (b:List Int) (hb:Bytes b) (D:b.length<=50000):bQ k app id dst (Xc k app id dst b)=some (b,0):=(AQ _ _).trans (by
 have h:=Z7p k (Xa app id) (iF _ _ _ _) (num 2 dst) b (Iw _ _) hb (by rw[Ep];decide) D;simp only[Z44,ZoC app id z dst C,Xc,h,DN,SL,SM])
theorem Z5N (x:Int) (z:0<=x/\x<256) (l:List Int):RN (x::l)=some (x / 128,x % 128,0):=(AQ _ _).trans (by
 have J:=z.1;have M:=z.2;have G:Ad (Int.fdiv x (2 ^ (7:Nat)))=x / 128:=by rw[Int.fdiv_eq_ediv_of_nonneg _ (by decide),Ez (by omega) (by omega)];rfl
 have I:Ad (bits .and .u8 x 127)=x % 128:=by
  have:=bits_mask .u8 8 (by decide) wraps_u8 7 (by decide) x J (by show x<256;exact M);rw[show bits .and .u8 x 127=x % 128 from this,Ez (by omega) (by omega)]
 have C:decide ((0:Int)<=0/\(0:Int)<((l.length+1:Nat):Int))=true:=decide_eq_true (by omega);have D:(((l.length+1:Nat):Int)==0)=false:=beq_eq_false_iff_ne.2 (by omega);simp only[Z5I,List.length_cons,C,D,DN,cond_false,cond_true];rw[show (x::l)[Int.toNat 0]? = some x from rfl];simp only[Option.bind_some,G,I])
theorem or16 {a b:Int} (D:0<=a/\a<256) (hb:0<=b/\b<256):bits .or .u16 (IntKind.wrap .u16 a) (IntKind.wrap .u16 ((IntKind.wrap .u16 b)*2 ^ (8:Nat)))=a+256*b:=by
 rw[Y4 (n:=a) (by omega) (by omega),Y4 (n:=b) (by omega) (by omega),show (2:Int) ^ (8:Nat)=256 from rfl,Y4 (by omega) (by omega)];rw[Sz .u16 16 (by decide) (fun n z C=>Y4 z C) 8 (by decide) a (b*256) (by omega) (by show b*256 % 256=0;omega) (by show _<(65536:Int);omega) D.1 (by show a<256;omega)];omega
theorem or24 {a b c:Int} (z:0<=a/\a<256) (hb:0<=b/\b<256) (hc:0<=c/\c<256) :
  bits .or .u32 (bits .or .u32 (IntKind.wrap .u32 a) (IntKind.wrap .u32 ((IntKind.wrap .u32 b)*2 ^ (8:Nat)))) (IntKind.wrap .u32 ((IntKind.wrap .u32 c)*2 ^ (16:Nat)))=a+256*b+65536*c:=by
 rw[Js (n:=a) (by omega) (by omega),Js (n:=b) (by omega) (by omega),Js (n:=c) (by omega) (by omega),show (2:Int) ^ (8:Nat)=256 from rfl,show (2:Int) ^ (16:Nat)=65536 from rfl,Js (n:=b*256) (by omega) (by omega),Js (n:=c*65536) (by omega) (by omega)];rw[Sz .u32 32 (by decide) wraps_u32 8 (by decide) a (b*256) (by omega) (by show b*256 % 256=0;omega) (by show _<(4294967296:Int);omega) z.1 (by show a<256;omega)];rw[Sz .u32 32 (by decide) wraps_u32 16 (by decide) (a+b*256) (c*65536) (by omega) (by show c*65536 % 65536=0;omega) (by show _<(4294967296:Int);omega) (by omega) (by show _<(65536:Int);omega)];omega
theorem Zsk {x:Int} (z:0<=x/\x<256):bits .and .u8 x 128=(if x<128 then 0 else 128)/\bits .andNot .u8 x 128=(if x<128 then x else x - 128):=by
 have key:∀n:Fin 256,bits .and .u8 ((n.val:Nat):Int) 128=(if ((n.val:Nat):Int)<128 then 0 else 128)/\bits .andNot .u8 ((n.val:Nat):Int) 128=(if ((n.val:Nat):Int)<128 then ((n.val:Nat):Int) else ((n.val:Nat):Int) - 128):=by decide +kernel
 obtain⟨y,rfl⟩:=Int.eq_ofNat_of_zero_le z.1;exact key ⟨y,by exact_mod_cast z.2⟩
theorem ZjY {p:CG} (h:Vg p):Bytes (P9 p):=((Bytes.cons (lJ h) Bytes.nil).app (Iw _ _)).app (Iw _ _)
theorem Z83 (p:CG):(P9 p).length=6:=by simp[P9,Ep]
theorem Z7F (k:Bh) (iv:Int) (s:List Int):(YR k iv s).length=6:=Ep _ _
theorem Z9t (k:Bh) (p:CG):(JM k p).length=13+p.Payload.length:=by
 simp only[JM,List.length_append,List.length_cons,List.length_nil,VE,Z83,Z7F,yT];omega
theorem Zpf {p:CG} (h:Vg p):(bits .and .u8 (ctl p) 128 != 0)=p.Control/\Ad (bits .andNot .u8 (ctl p) 128)=p.EL:=by
 have D:=h.A8;obtain⟨z,C⟩:=Zsk (lJ h);rw[z,C];unfold ctl;cases p.Control with
 | true=>
  simp only[if_true];rw[if_neg (by omega),if_neg (by omega)];exact⟨rfl,by rw[Ez (by omega) (by omega)];omega⟩
 | false=>
  simp only[Bool.false_eq_true,if_false];rw[if_pos (by omega),if_pos (by omega)];exact⟨rfl,Ez (by omega) (by omega)⟩
theorem Zgr (k:Bh) (p:CG) (C:lW p) (hc:checkN p=0) (hk:p.C9=k.C9) (hb:Bytes p.Payload):Wv k p.IV (JM k p)=some (p,0):=by
 have J:=Z7J hc;have hnid:=J.O6;have hlen:=J.len;have G:=Z9t k p;have hsl:=yT k p;have i1:=C.iv.1;have s1:=C.src.1;have s2:=C.src.2;have d1:=C.dst.1;have d2:=C.dst.2;have q1:=C.seq.1;have q2:=J.seq;obtain⟨o,ho,Y⟩:=Z6G p J C;obtain⟨c,hm,S⟩:=Z5E k p.IV C.iv (Ig k p) (zA _ _ _ _) (by omega) (by omega);obtain⟨x,hx,hx'⟩:=Z0a o c;obtain⟨y,hy,hy'⟩:=Z0a x c;have hX:D7 (P9 p) (YR k p.IV (Ig k p))=J6 x:=by rw[hx',Y,S]
 have hY:J6 y=P9 p:=by
  rw[hy',hx',Y,S];exact Zy (ZjY J) (Iw _ _) (by rw[Z83,Z7F];omega)
 have hyl:J6 y=[ctl p,p.Seq % 256,p.Seq / 256 % 256,p.Seq / 256 / 256 % 256,p.Src % 256,p.Src / 256 % 256]:=hY;simp only[J6,List.cons.injEq,and_true]at hyl;obtain⟨y0,y1,y2,y3,y4,y5⟩:=hyl;have hE:JM k p=(p.C9+p.IV % 2*128)::(J6 x++Ig k p):=by rw[JM,hX];rfl
 have h2:∀z,AY dJ (.b2 p.IV (JM k p) k z)=some (p,0):=fun z=>by
  have g1:(JM k p).drop (Int.toNat 1)=J6 x++Ig k p:=by rw[hE];rfl
  have g2:(J6 x++Ig k p).take (Int.toNat 7 - Int.toNat 1)=[x.x0,x.x1,x.x2,x.x3,x.x4,x.x5]:=rfl;have g3:((JM k p).drop (Int.toNat 7)).take ((JM k p).length - Int.toNat 7)=Ig k p:=by
   have:(JM k p).drop (Int.toNat 7)=Ig k p:=by rw[hE];rfl
   rw[this,List.take_of_length_le (by rw[G,hsl];show _<=13+p.Payload.length - 7;omega)]
  have c7:decide ((0:Int)<=7/\(7:Int)<=((JM k p).length:Int))=true:=decide_eq_true (by rw[G];omega);have c71:decide ((0:Int)<=1/\(1:Int)<=((Int.toNat 7:Nat):Int))=true:=rfl;have nR:bits .or .u32 (bits .or .u32 (IntKind.wrap .u32 (y.x1)) (IntKind.wrap .u32 ((IntKind.wrap .u32 (y.x2))*2 ^ (8:Nat)))) (IntKind.wrap .u32 ((IntKind.wrap .u32 (y.x3))*2 ^ (16:Nat)))=p.Seq:=by
   rw[y1,y2,y3,or24 (by omega) (by omega) (by omega)];omega
  have R:bits .or .u16 (IntKind.wrap .u16 (y.x4)) (IntKind.wrap .u16 ((IntKind.wrap .u16 (y.x5))*2 ^ (8:Nat)))=p.Src:=by
   rw[y4,y5,or16 (by omega) (by omega)];omega
  have Q:bits .or .u16 (IntKind.wrap .u16 (p.Cf % 256)) (IntKind.wrap .u16 ((IntKind.wrap .u16 (p.Cf / 256 % 256))*2 ^ (8:Nat)))=p.Cf:=by
   rw[or16 (by omega) (by omega)];omega
  have M:XP k.LC (Ny 0 p.Src p.Seq p.IV) [ctl p] (Ig k p)=some (num 2 p.Cf++p.Payload,0):=Z7p _ _ (iF _ _ _ _) _ _ (Bytes.cons (lJ J) Bytes.nil) ((Iw _ _).app hb) (by simp) (by rw[List.length_append,Ep];omega);have ptk:List.take 1 [y.x0,y.x1,y.x2,y.x3,y.x4,y.x5]=[ctl p]:=by rw[y0];rfl
  have hpl:(num 2 p.Cf++p.Payload).length=p.Payload.length+2:=by rw[List.length_append,Ep];omega
  have p0:(num 2 p.Cf++p.Payload)[Int.toNat 0]? = some (p.Cf % 256):=rfl;have p1:(num 2 p.Cf++p.Payload)[Int.toNat 1]? = some (p.Cf / 256 % 256):=rfl;have p2:((num 2 p.Cf++p.Payload).drop (Int.toNat 2)).take ((p.Payload.length+2) - Int.toNat 2)=p.Payload:=by
   have:(num 2 p.Cf++p.Payload).drop (Int.toNat 2)=p.Payload:=rfl;rw[this,List.take_of_length_le (by show _<=p.Payload.length+2 - 2;omega)]
  have c0:decide ((0:Int)<=0/\(0:Int)<((p.Payload.length+2:Nat):Int))=true:=decide_eq_true (by omega);have c1:decide ((0:Int)<=1/\(1:Int)<((p.Payload.length+2:Nat):Int))=true:=decide_eq_true (by omega);have c2:decide ((0:Int)<=2/\(2:Int)<=((p.Payload.length+2:Nat):Int))=true:=decide_eq_true (by omega);obtain⟨b1,b2⟩:=Zpf J;have D:U0 0 p.Src p.Seq p.IV=some (Ny 0 p.Src p.Seq p.IV):=dL (kind:=0) ⟨by decide,by decide⟩ C.src C.seq C.iv;refine(AQ _ _).trans ?_;simp only[dJ,c7,c71,g1,g2,g3,DN,cond_true];rw[show ([x.x0,x.x1,x.x2,x.x3,x.x4,x.x5])[0]? = some x.x0 from rfl,show ([x.x0,x.x1,x.x2,x.x3,x.x4,x.x5])[1]? = some x.x1 from rfl,show ([x.x0,x.x1,x.x2,x.x3,x.x4,x.x5])[2]? = some x.x2 from rfl,show ([x.x0,x.x1,x.x2,x.x3,x.x4,x.x5])[3]? = some x.x3 from rfl,show ([x.x0,x.x1,x.x2,x.x3,x.x4,x.x5])[4]? = some x.x4 from rfl,show ([x.x0,x.x1,x.x2,x.x3,x.x4,x.x5])[5]? = some x.x5 from rfl];simp only[Option.bind_some,hm];rw[show (⟨x.x0,x.x1,x.x2,x.x3,x.x4,x.x5⟩:Dj)=x from rfl,hy];simp only[Option.bind_some,nR,R,D,ptk,M,hpl,p0,p1,p2,c0,c1,c2,Q,cond_true,GH,cond_false,List.length_cons,List.length_nil,beq_self_eq_true,jW p.Payload (by omega)];rw[y0,b1,b2];have hps:(⟨p.IV,k.C9,p.Control,p.EL,p.Seq,p.Src,p.Cf,p.Payload⟩:CG)=p:=by rw[<- hk]
  rw[hps,Z5t,hc];rfl
 have I:RN (JM k p)=some (p.IV % 2,k.C9,0):=by
  rw[hE,Z5N _ (by omega),show (p.C9+p.IV % 2*128) / 128=p.IV % 2 by omega,show (p.C9+p.IV % 2*128) % 128=p.C9 by omega,hk]
 have e1:Ad (bits .and .u32 p.IV 1)=p.IV % 2:=by rw[and1 p.IV C.iv,Ez (by omega) (by omega)]
 refine(AQ _ _).trans ?_;simp only[dJ,G,I,e1,h2,GH,DN,Option.bind_some,cond_false];rw[show decide (((13+p.Payload.length:Nat):Int)<14)=false from decide_eq_false (by omega),show decide (((13+p.Payload.length:Nat):Int)>29)=false from decide_eq_false (by omega)];rfl
theorem v_Rx0 (bit:Int) (h:bit=0):fB ED bit=some (0,true):=(AQ _ _).trans (by
 subst h;have z:AY xY (.b1 0 ED)=some (0,true):=(AQ _ _).trans rfl;simp only[xY,z,DN];rfl)
theorem Z6i (k o:Bh):O9 ⟨0,k,o⟩=some [k]:=(AQ _ _).trans rfl
theorem Z66 (n:Ae) (k o:Bh) (I:n.IV=ED) (J:n.Keys=⟨0,k,o⟩) (now:Int) (E:List Int) (P:CG) (x:Int) (hh:RN E=some (0,x,0)) (M:Wv k 0 E=some (P,0)) (ev:List BH) :
  qK E ⟨n,now⟩ ev=some ⟨⟨P,k,false⟩,true,⟨n,now⟩,ev⟩:=by
 have G:∀z,AY aH (.b1 E 0 [k] [k] ((1:Nat):Int) 0 ⟨n,now⟩ ev z)=some ⟨⟨P,k,false⟩,true,⟨n,now⟩,ev⟩:=fun z=>(AQ _ _).trans (by
  simp only[aH,List.length_cons,List.length_nil,DN];rw[show decide ((0:Int)<((1:Nat):Int))=true from rfl,show decide ((0:Int)<=0/\(0:Int)<(((0+1:Nat)):Int))=true from rfl,show ([k])[Int.toNat 0]? = some k from rfl];simp only[cond_true,Option.bind_some,M,beq_self_eq_true,Bool.and_self])
 refine(AQ _ _).trans ?_;have D:fB n.IV 0=some (0,true):=by rw[I];exact v_Rx0 0 rfl
 have C:O9 n.Keys=some [k]:=by rw[J];exact Z6i _ _
 simp only[aH,hh,D,C,GH,DN,Option.bind_some,cond_false,cond_true,Bool.not_true,beq_self_eq_true,Bool.and_self];exact G _
theorem Za8 (id:Ar):RP [] id=some false:=by
 have z:aK [] id=some (-1):=(AQ _ _).trans ((AQ aP (.b1 [] 0 0 id)).trans rfl);have C:Yt [] id=some false:=(AQ _ _).trans (by simp only[pO,z,DN,Option.bind_some];rfl);exact(AQ _ _).trans (by simp only[wM,C,DN,Option.bind_some])
theorem Zkx (id:Ar):bU [] id=some [id]:=(AQ _ _).trans (by
 have z:oL ⟨[],256⟩ id=some ⟨[id],256⟩:=(AQ _ _).trans (by
  simp(disch:=omega) only[Z22,Z0z [] (Nat.zero_le _),DN,SL,SM])
 have C:AY bW (.b1 ⟨[id],256⟩)=some [id]:=(AQ _ _).trans (by
  have:oI ⟨[id],256⟩=some [id]:=(AQ _ _).trans (by
   have e:(if Ad (((0+1:Nat):Int) - 256)>0 then Ad (((0+1:Nat):Int) - 256) else 0)=0:=by
    rw[Ez (by omega) (by omega)];rfl
   simp only[Z20,List.length_cons,List.length_nil,e,DN];rw[show (([id].drop (Int.toNat 0)).take (0+1 - Int.toNat 0))=[id] from rfl,Z0z [id] (by simp)];rfl)
  simp only[bW,this,DN,Option.bind_some])
 simp only[bW,Za8,z,C,DN,Option.bind_some,Bool.not_false,cond_true])
theorem ZaR (src:Int):fD [] src=some (-1):=(AQ _ _).trans (by
 have z:o6 [] src=some ⟨-1,src⟩:=(AQ _ _).trans ((AQ Z2i (.b1 [] 0 0 src)).trans rfl);simp only[Z68,z,DN,Option.bind_some])
theorem Z90 (id:Ar):dN [] id=some 0:=(AQ _ _).trans (by
 have z:oJ ⟨[],32⟩=some false:=(AQ _ _).trans rfl;have C:AY dQ (.b1 [] (-1))=some 0:=(AQ _ _).trans (by
  simp only[dQ,z,DN];rfl)
 simp only[dQ,ZaR,C,DN,Option.bind_some];rfl)
theorem Znu (id:Ar):vF [] id=some ([id],0):=(AQ _ _).trans (by
 have z:oK ⟨[],32⟩ id=some ⟨[id],32⟩:=(AQ _ _).trans (by
  simp(disch:=omega) only[Z21,Z8R [] (Nat.zero_le _),DN,SL,SM])
 simp only[Z4R,Z90,ZaR,z,GH,DN,Option.bind_some,cond_false];rfl)
theorem Zlv (src dst:Int) (id:Ar) (A8:Int) (S:List Int) (h:1<=S.length/\S.length<=15) (now:Int):sF ⟨[],[]⟩ src dst id A8 (Du true S) now=some (⟨[],[]⟩,[⟨src,dst,true,A8,id,S⟩],false):=(AQ _ _).trans (by
 have C:∀x y z u,AY aU (.b1 src dst A8 x y z ⟨[],[]⟩ id (Du true S) u)=some (⟨[],[]⟩,[⟨src,dst,true,A8,id,S⟩],false):=fun x y z u=>(AQ _ _).trans (by
  simp only[aU,Du,jW S (by omega),DN,SL,SM])
 simp only[aU,lF,Z0s S h,GH,show (Du true S).Control=false from rfl,C,DN,Option.bind_some,cond_false,beq_self_eq_true,Bool.and_self,cond_true,List.length_nil])
theorem Zto (a A8:Int) (b:List Int):(mP a A8 b).Payload.length=b.length+5:=by
 show ((64:Int)::Dl 1 2 true a 65535 b).length=_;rw[List.length_cons,Ux]
theorem ZoU (a A8:Int) (b:List Int):Bytes (mP a A8 b).Payload:=Bytes.cons ⟨by decide,by decide⟩ (zA _ _ _ _)
theorem YL (a A8:Int) (b:List Int):(mE a A8 b).length=b.length+18:=by
 rw[mE,Z9t,Zto];omega
theorem ZaB {a A8:Int} {b:List Int} (h:Il a A8 b):Wv (Bv 3) 0 (mE a A8 b)=some (mP a A8 b,0):=Zgr (Bv 3) (mP a A8 b) (Zbq h) (ZaO h) rfl (ZoU _ _ _)
theorem Zad (a A8:Int) (b:List Int):RN (mE a A8 b)=some (0,(Bv 3).C9,0):=by
 have z:=ZaI 3;rw[show mE a A8 b=((Bv 3).C9+0 % 2*128)::(D7 (P9 (mP a A8 b)) (YR (Bv 3) 0 (Ig (Bv 3) (mP a A8 b)))++Ig (Bv 3) (mP a A8 b)) from rfl,Z5N _ (by omega),show ((Bv 3).C9+0 % 2*128) / 128=0 by omega,show ((Bv 3).C9+0 % 2*128) % 128=(Bv 3).C9 by omega]
theorem v_put (a A8:Int) (b:List Int) (h:Il a A8 b) (due now:Int) (n:Ae) (z:n.Out.length<=1000) (ev:List BH) :
  aI (Bv 3) (mP a A8 b) due ⟨n,now⟩ ev=some ⟨true,⟨{ n with Out:=n.Out++[⟨due,mE a A8 b,0⟩] },now⟩,ev⟩:=(AQ _ _).trans (by
 simp(disch:=omega) only[Z3w,ZaC h,GH,Bool.and_self,DN,SL,SM])
theorem Znr (src:Int) (b:List Int) (A8:Int) (hm:Il src A8 b) (now:Int) (n:Ae) (J:n.Ai=[]) (M:n.A7=⟨[],[]⟩) (S:n.App=2) :
  pJ ⟨mP src A8 b,Bv 3,false⟩ ⟨src,0,0⟩ (Du true (Dl 1 2 true src 65535 b)) ⟨n,now⟩ [] =
   some ⟨⟨{ n with Ai:=[⟨src,0,0⟩] },now⟩,[⟨1,⟨src,65535,true,A8,⟨src,0,0⟩,b⟩,0,0⟩],[],[],[]⟩:=(AQ _ _).trans (by
 have Y:=Ux 1 2 true src 65535 b;have R:=hm.b1;have I:=Zlv src 65535 ⟨src,0,0⟩ A8 (Dl 1 2 true src 65535 b) ⟨by omega,by omega⟩ now;have G:∀w:Je,W9 w true=some w.Node.App:=fun w=>(AQ _ _).trans rfl;have D:bQ 2 true ⟨src,0,0⟩ 65535 (Dl 1 2 true src 65535 b)=some (b,0):=Zfg _ true ⟨src,0,0⟩ ⟨hm.u16,V4,V4⟩ 65535 Z1f b hm.b2 (by omega);have C:∀e:BH,yO e []=some ⟨[e]⟩:=fun e=>(AQ _ _).trans (by simp(disch:=omega) only[Z6d,DN,SL,SM]);let z:Dw:=⟨src,65535,true,A8,⟨src,0,0⟩,Dl 1 2 true src 65535 b⟩;have k1:∀i:Nat,i=1->∀(m:Ae) ev,AY Py (.b1 [z] ((1:Nat):Int) i ⟨m,now⟩ ev [] [] [])=some ⟨⟨m,now⟩,ev,[],[],[]⟩:=fun i hi m ev=>(AQ _ _).trans (by
  subst hi;simp only[Py,Int.lt_irrefl,Bool.and_self,DN,SL,SM])
 have k2:∀(m:Ae) ev,AY Py (.b2 [z] ((1:Nat):Int) 0 ⟨m,now⟩ ev [] [] [])=some ⟨⟨m,now⟩,ev,[],[],[]⟩:=fun m ev=>(AQ _ _).trans (by
  have:=k1 1 rfl m ev;simp only[Py,Bool.and_self,DN,SL,SM];exact this)
 have k0:AY Py (.b1 [z] ((1:Nat):Int) 0 ⟨n,now⟩ [] [] [] [])=some ⟨⟨{ n with Ai:=[⟨src,0,0⟩] },now⟩,[⟨1,⟨src,65535,true,A8,⟨src,0,0⟩,b⟩,0,0⟩],[],[],[]⟩:=(AQ _ _).trans (by
  have hc:=Z90 z.Seq;have Q:=Znu z.Seq;simp only[Py,List.length_cons,List.length_nil,DN];rw[show decide ((0:Int)<((1:Nat):Int))=true from rfl,show decide ((0:Int)<=0/\(0:Int)<(((0+1:Nat)):Int))=true from rfl,show ([z])[Int.toNat 0]? = some z from rfl];simp only[cond_true,Option.bind_some,J,hc,GH,cond_false,Q];rw[show z.App=true from rfl,show z.Seq=⟨src,0,0⟩ from rfl,show z.Cf=65535 from rfl,show z.Bytes=Dl 1 2 true src 65535 b from rfl,G];simp only[Option.bind_some,S,D,GH,cond_false,C,beq_self_eq_true,Bool.and_self,cond_true];exact k2 _ _)
 simp only[Py,M,show (mP src A8 b).Src=src from rfl,show (mP src A8 b).Cf=65535 from rfl,show (mP src A8 b).EL=A8 from rfl,I,J,DN,Option.bind_some,List.length_cons,List.length_nil,beq_self_eq_true,Bool.and_self,cond_true];rw[show ({ n with A7:=⟨[],[]⟩,Ai:=[] }:Ae)=n by rw[<- M,<- J]];rw[M]at k0;exact k0)
noncomputable def Ir (r:Bool) (a A8:Int) (b:List Int) (now:Int):List BL:=if r=true then [⟨now+2,mE a (A8 - 1) b,0⟩] else []
noncomputable def KU (a A8:Int) (b:List Int):BH:=⟨1,⟨a,65535,true,A8,⟨a,0,0⟩,b⟩,0,0⟩
theorem ZoE (a A8:Int) (b:List Int) (h:Il a A8 b) (ht:2<=A8) (B:Int) (hB:0<B/\B<=1000) (hne:a≠B) (r f:Bool) (O:List BL) (hO:Y5 O) (s st now:Int) (hnow:0<=now/\now<=1000) :
  UD (mE a A8 b) ⟨nv B r f [] [] O s st,now⟩ []=some ⟨⟨nv B r f [⟨a,0,0⟩] [⟨a,0,0⟩] (O++Ir r a A8 b now) s st,now⟩,[KU a A8 b],[],[],[],[]⟩:=by
 have hS:=Ux 1 2 true a 65535 b;have hb1:=h.b1;have hOl:=hO.len;have hw:Ad (now+2)=now+2:=Ez (by omega) (by omega);have hwt:Ad (A8 - 1)=A8 - 1:=Ez (by omega) (by have:=h.t1;omega);have h' : Il a (A8 - 1) b:=⟨h.a0,h.a1,by omega,by have:=h.t1;omega,h.b0,h.b1,h.b2⟩;have k4:∀z : List BL,AY He (.b4 ⟨nv B r f [⟨a,0,0⟩] [] z s st,now⟩ [] ⟨mP a A8 b,Bv 3,false⟩ ⟨a,0,0⟩ [])=some ⟨⟨nv B r f [⟨a,0,0⟩] [⟨a,0,0⟩] z s st,now⟩,[KU a A8 b],[],[],[],[]⟩:=fun z =>by
  have R:=Znr a b A8 h now (nv B r f [⟨a,0,0⟩] [] z s st) rfl rfl rfl;have G:qF 65535 ⟨nv B r f [⟨a,0,0⟩] [] z s st,now⟩ []=some ⟨true,⟨nv B r f [⟨a,0,0⟩] [] z s st,now⟩,[]⟩:=(AQ _ _).trans (by
   have e:((65535:Int)==B)=false:=beq_eq_false_iff_ne.2 (by omega);simp only[Z2X,e,Bool.and_self,DN,SL,SM])
  have D:qZ (mP a A8 b) (Du true (Dl 1 2 true a 65535 b)) ⟨nv B r f [⟨a,0,0⟩] [] z s st,now⟩ []=some ⟨⟨nv B r f [⟨a,0,0⟩] [] z s st,now⟩,[]⟩:=(AQ _ _).trans (by
   have hw:=Z96 (mP a A8 b).Cf;simp only[Z3f,hw,Bool.and_self,DN,SL,SM])
  have k6:AY He (.b6 ⟨nv B r f [⟨a,0,0⟩] [] z s st,now⟩ [] ⟨mP a A8 b,Bv 3,false⟩ ⟨a,0,0⟩ (Du true (Dl 1 2 true a 65535 b)) [])=some ⟨⟨nv B r f [⟨a,0,0⟩] [⟨a,0,0⟩] z s st,now⟩,[KU a A8 b],[],[],[],[]⟩:=(AQ _ _).trans (by
   simp only[He,show (mP a A8 b).Cf=65535 from rfl,G,R,show (Du true (Dl 1 2 true a 65535 b)).Control=false from rfl,Bool.and_self,DN,SL,SM];rfl)
  have k5:AY He (.b5 ⟨nv B r f [⟨a,0,0⟩] [] z s st,now⟩ [] ⟨mP a A8 b,Bv 3,false⟩ ⟨a,0,0⟩ (Du true (Dl 1 2 true a 65535 b)) [])=some ⟨⟨nv B r f [⟨a,0,0⟩] [⟨a,0,0⟩] z s st,now⟩,[KU a A8 b],[],[],[],[]⟩:=(AQ _ _).trans (by
   simp only[He,D,k6,Bool.and_self,DN,SL,SM])
  refine(AQ _ _).trans ?_;have J:bG (mP a A8 b).Control (mP a A8 b).Payload=some (Du true (Dl 1 2 true a 65535 b),0):=ZqX _ ⟨by omega,by omega⟩;have C:((mP a A8 b).Src != Gu.Low)=true:=bne_iff_ne.2 (by have:=h.a0;show a≠0;omega);simp only[He,J,C,GH,k5,Bool.and_self,DN,SL,SM]
 have k2:AY He (.b2 ⟨nv B r f [] [] O s st,now⟩ [] ⟨mP a A8 b,Bv 3,false⟩)=some ⟨⟨nv B r f [⟨a,0,0⟩] [⟨a,0,0⟩] (O++Ir r a A8 b now) s st,now⟩,[KU a A8 b],[],[],[],[]⟩:=(AQ _ _).trans (by
  have I:RP [] ⟨(mP a A8 b).Src,(mP a A8 b).IV,(mP a A8 b).Seq⟩=some false:=Za8 _;have Y:bU [] ⟨(mP a A8 b).Src,(mP a A8 b).IV,(mP a A8 b).Seq⟩=some [⟨a,0,0⟩]:=Zkx _;have M:((mP a A8 b).Cf != B)=true:=bne_iff_ne.2 (by show (65535:Int)≠B;omega);have httl:decide ((mP a A8 b).EL>=2)=true:=decide_eq_true ht;have Q:decide ((O.length:Int)<200)=true:=decide_eq_true (by omega);have S:=v_put a (A8 - 1) b h' (now+2) now (nv B r f [⟨a,0,0⟩] [] O s st) (show O.length<=1000 by omega) [];have k3:r=true->AY He (.b3 ⟨nv B r f [⟨a,0,0⟩] [] O s st,now⟩ [] ⟨mP a A8 b,Bv 3,false⟩ ⟨a,0,0⟩ [])=some ⟨⟨nv B r f [⟨a,0,0⟩] [⟨a,0,0⟩] (O++Ir r a A8 b now) s st,now⟩,[KU a A8 b],[],[],[],[]⟩:=fun hr=>(AQ _ _).trans (by
   have k4' :=k4 (O++[⟨now+2,mE a (A8 - 1) b,0⟩]);rw[show Ir r a A8 b now=[⟨now+2,mE a (A8 - 1) b,0⟩] from if_pos hr];have hp' : aI (Bv 3) { mP a A8 b with EL:=Ad ((mP a A8 b).EL - 1) } (Ad (now+2)) ⟨nv B r f [⟨a,0,0⟩] [] O s st,now⟩ []=some ⟨true,⟨nv B r f [⟨a,0,0⟩] [] (O++[⟨now+2,mE a (A8 - 1) b,0⟩]) s st,now⟩,[]⟩:=by
    rw[hw,show ({ mP a A8 b with EL:=Ad ((mP a A8 b).EL - 1) }:CG)=mP a (Ad (A8 - 1)) b from rfl,hwt];exact S
   simp only[He,hp',k4',Bool.and_self,DN,SL,SM])
  simp only[He,I,Y,M,httl,Q,Bool.and_self,DN,SL,SM];cases r with
  | true=>exact k3 rfl
  | false=>
   rw[show Ir false a A8 b now=[] from rfl,List.append_nil];exact k4 O)
 have k1:AY He (.b1 (mE a A8 b) ⟨nv B r f [] [] O s st,now⟩ [])=some ⟨⟨nv B r f [⟨a,0,0⟩] [⟨a,0,0⟩] (O++Ir r a A8 b now) s st,now⟩,[KU a A8 b],[],[],[],[]⟩:=(AQ _ _).trans (by
  have h13:((((mE a A8 b).length:Nat):Int)==13)=false:=beq_eq_false_iff_ne.2 (by rw[YL];omega);have hdc:=Z66 (nv B r f [] [] O s st) (Bv 3) I8 rfl rfl now (mE a A8 b) (mP a A8 b) _ (Zad a A8 b) (ZaB h) [];have C:((mP a A8 b).Src==B)=false:=beq_eq_false_iff_ne.2 hne;simp only[He,h13,hdc,C,Bool.and_self,DN,SL,SM];exact k2)
 refine(AQ _ _).trans ?_;simp only[He,show (En.EP==3)=false from rfl,Bool.and_self,DN,SL,SM];exact k1
theorem ZqJ (id:Ar):RP [id] id=some true:=by
 have z:aK [id] id=some 0:=(AQ _ _).trans ((AQ aP (.b1 [id] 1 0 id)).trans (by
  have e:((id.Src==id.Src)&&((id.IV==id.IV)&&((id.Seq==id.Seq)&&true)))=true:=by simp
  simp only[aP,DN];rw[show decide ((0:Int)<1)=true from rfl,show ([id])[Int.toNat 0]? = some id from rfl];simp only[cond_true,Option.bind_some,e,List.length_cons,List.length_nil];rfl))
 have C:Yt [id] id=some true:=(AQ _ _).trans (by simp only[pO,z,DN,Option.bind_some];rfl);exact(AQ _ _).trans (by simp only[wM,C,DN,Option.bind_some])
theorem Zp0 (a A8:Int) (b:List Int) (h:Il a A8 b) (B:Int) (r f:Bool) (R:List Ar) (O:List BL) (C:List Ar) (hc:C=[⟨a,0,0⟩]\/a=B) (s st now:Int) :
  ∃c q,UD (mE a A8 b) ⟨nv B r f C R O s st,now⟩ []=some ⟨⟨nv B r f C R O s st,now⟩,[],c,q,[],[]⟩:=by
 have M:=h.b1;have I:((((mE a A8 b).length:Nat):Int)==13)=false:=beq_eq_false_iff_ne.2 (by rw[YL];omega);have J:=Z66 (nv B r f C R O s st) (Bv 3) I8 rfl rfl now (mE a A8 b) (mP a A8 b) _ (Zad a A8 b) (ZaB h) [];refine⟨C,R,(AQ _ _).trans ?_⟩;simp only[He,show (En.EP==3)=false from rfl,Bool.and_self,DN,SL,SM];refine(AQ _ _).trans ?_
 by_cases D:a=B
 ·have z:((mP a A8 b).Src==B)=true:=beq_iff_eq.2 D;simp only[He,I,J,z,Bool.and_self,DN,SL,SM]
 ·obtain rfl:=hc.resolve_right D;have z:((mP a A8 b).Src==B)=false:=beq_eq_false_iff_ne.2 D;simp only[He,I,J,z,Bool.and_self,DN,SL,SM];refine(AQ _ _).trans ?_;have G:RP [(⟨a,0,0⟩:Ar)] ⟨(mP a A8 b).Src,(mP a A8 b).IV,(mP a A8 b).Seq⟩=some true:=ZqJ _;simp only[He,G,Bool.and_self,DN,SL,SM]
noncomputable def F6:List Int:=num 1 0++num 4 0++num 8 (NL (Bv 3).JY (num 1 0++num 4 0))
theorem Rl:F6.length=13:=by simp[F6,Ep]
theorem Znf:Bytes F6:=((Iw _ _).app (Iw _ _)).app (Iw _ _)
theorem Z4o (u:Bool) (M:u=false):Ws (Bv 3) ⟨u,false,0⟩=some F6:=(AQ _ _).trans (by
 subst M;have Q:IntKind.wrap .u64 0=0:=wu64 (by decide) (by decide);have D:MK [(⟨1,0⟩:DF),⟨4,0⟩]=some (num 1 0++num 4 0,0):=by
  rw[YP _ (fun f C=>by
   simp only[List.mem_cons,List.not_mem_nil,or_false]at C;rcases C with rfl|rfl<;>exact⟨by decide,by decide,by decide,by decide⟩) (by simp[LD,Ep]) (by simp)]
  simp[LD]
 have z:Rh (Bv 3).JY (num 1 0++num 4 0)=some (NL (Bv 3).JY (num 1 0++num 4 0)):=Z1g _ _ ((Iw _ _).app (Iw _ _)) (by simp[Ep]);have I:=Z0t (Bv 3).JY (num 1 0++num 4 0);have G:MK [(⟨8,NL (Bv 3).JY (num 1 0++num 4 0)⟩:DF)]=some (num 8 (NL (Bv 3).JY (num 1 0++num 4 0)),0):=by
  rw[YP _ (fun f C=>by
   rw[List.mem_singleton.1 C];exact⟨show (1:Int)<=8 by decide,show (8:Int)<=8 by decide,I.1,I.2⟩) (by simp[LD,Ep]) (by simp)]
  simp[LD]
 have J:Hw [num 1 0++num 4 0,num 8 (NL (Bv 3).JY (num 1 0++num 4 0))]=some F6:=by
  rw[PV _ (by simp[Ep]) (by simp)];simp[F6]
 have b2:AY UX (.b2 0 (Bv 3) ⟨false,false,0⟩)=some F6:=(AQ _ _).trans (by
  simp only[UX,Q,D,z,G,J,DN,SL,SM])
 have b1:AY UX (.b1 0 (Bv 3) ⟨false,false,0⟩)=some F6:=(AQ _ _).trans (by simp only[UX,b2,DN,SL,SM]);simp only[UX,b1,DN,SL,SM])
theorem Zgh:uT [Bv 3] F6=some (⟨false,false,0⟩,0,0):=by
 have J:RS F6 [1,4]=some ([0,0],F6.drop 5,0):=by
  rw[ZaU [1,4] F6 Znf (fun n C=>by simp only[List.mem_cons,List.not_mem_nil,or_false]at C;rcases C with rfl|rfl<;>decide) (by rw[Rl];decide) (by simp) (by rw[Rl];decide)];rfl
 have b1:∀z,AY dD (.b1 F6 [Bv 3] ((1:Nat):Int) 0 z ⟨false,false,0⟩)=some (⟨false,false,0⟩,0,0):=fun z=>(AQ _ _).trans (by
  have M:=okB F6 (by rw[Rl];decide);simp only[dD,DN];rw[show decide ((0:Int)<((1:Nat):Int))=true from rfl,show ([Bv 3])[Int.toNat 0]? = some (Bv 3) from rfl];simp only[cond_true,Option.bind_some,Z4o false rfl,M,beq_self_eq_true,List.length_cons,List.length_nil];rfl)
 refine(AQ _ _).trans ?_;have g0:F6[Int.toNat 0]? = some 0:=rfl;have D:(bits .and .u64 0 1 != 0)=false:=by decide
 have G:(bits .and .u64 0 2 != 0)=false:=by decide
 have I:IntKind.wrap .u32 0=0:=Js (by decide) (by decide);simp only[dD,Rl,J,g0,DN,Option.bind_some];rw[show decide (((13:Nat):Int)<13)=false from rfl,show decide (((13:Nat):Int)>13)=false from rfl,show decide ((0:Int)<=0/\(0:Int)<((13:Nat):Int))=true from rfl,show decide ((0:Int)>3)=false from rfl,show ([(0:Int),0])[Int.toNat 0]? = some 0 from rfl,show ([(0:Int),0])[Int.toNat 1]? = some 0 from rfl];simp only[cond_true,cond_false,Option.bind_some,D,G,I];exact b1 _
theorem Zo2 (B:Int) (r f:Bool) (C R:List Ar) (O:List BL) (s st now:Int) :
  ∃c q,UD F6 ⟨nv B r f C R O s st,now⟩ []=some ⟨⟨nv B r f C R O s st,now⟩,[],c,q,[],[]⟩:=by
 have z:O9 (⟨0,Bv 3,I8⟩:EM)=some [Bv 3]:=Z6i _ _;have I:uP ED ⟨false,false,0⟩ now=some ED:=by
  have b1:∀x y,AY Z4e (.b1 now ED ⟨false,false,0⟩ x y)=some ED:=fun x y=>(AQ _ _).trans rfl;exact(AQ _ _).trans (b1 _ _)
 have hh:wE (⟨0,Bv 3,I8⟩:EM) ED ⟨false,false,0⟩ 0 now=some (⟨0,Bv 3,I8⟩,ED):=by
  have b4:∀x y,AY U8 (.b2 now ⟨0,Bv 3,I8⟩ ED ⟨false,false,0⟩ x y)=some (⟨0,Bv 3,I8⟩,ED):=fun x y=>(AQ _ _).trans (by simp only[U8,I,DN,SL,SM]);have b2:∀x y,AY U8 (.b1 0 now [Bv 3] ⟨0,Bv 3,I8⟩ ED ⟨false,false,0⟩ x y)=some (⟨0,Bv 3,I8⟩,ED):=fun x y=>(AQ _ _).trans (by
   simp only[U8,DN,List.length_cons,List.length_nil];exact b4 _ _)
  refine(AQ _ _).trans ?_;simp only[U8,z,DN,Option.bind_some,List.length_cons,List.length_nil];exact b2 _ _
 have G:rC ⟨0,Bv 3,I8⟩ ED ⟨nv B r f C R O s st,now⟩ []=some ⟨⟨nv B r f C R O s st,now⟩,[]⟩:=by
  have J:=Z1p;have b3:AY Tm (.b2 ⟨nv B r f C R O s st,now⟩ [] ED ED)=some ⟨⟨nv B r f C R O s st,now⟩,[]⟩:=(AQ _ _).trans (by
   simp only[Tm,J,GH,Bool.and_self,DN,SL,SM])
  have b1:AY Tm (.b1 ⟨nv B r f C R O s st,now⟩ [] ED ED)=some ⟨⟨nv B r f C R O s st,now⟩,[]⟩:=(AQ _ _).trans (by
   simp only[Tm,b3,GH,Bool.and_self,DN,SL,SM])
  refine(AQ _ _).trans ?_;simp only[Tm,b1,GH,Bool.and_self,DN,SL,SM]
 refine⟨C,R,(AQ _ _).trans ?_⟩;simp only[He,show (En.EP==3)=false from rfl,Bool.and_self,DN,SL,SM];refine(AQ _ _).trans ?_;have D:((F6.length:Int)==13)=true:=by rw[Rl];rfl
 simp only[He,D,z,Zgh,hh,G,Bool.and_self,DN,SL,SM]
theorem Zod (now:Int):wQ En now=some (En,[]):=by
 have hc:=Z8X [] (Nat.zero_le _);have b3:AY Ub (.b2 now En En)=some (En,[]):=(AQ _ _).trans (by
  simp only[Ub,show (En.EP==0)=true from rfl,Bool.and_self,DN,SL,SM])
 have b1:AY Ub (.b1 now false En En)=some (En,[]):=(AQ _ _).trans (by
  simp only[Ub,show (En.EP==2)=false from rfl,b3,Bool.and_self,DN,SL,SM])
 refine(AQ _ _).trans ?_;simp only[Ub,show En.AO=[] from rfl,hc,show (En.EP==3)=false from rfl,Bool.and_self,DN,SL,SM];exact b1
theorem Zna (n:Ae) (h:n.Low=En) (now:Int):qC ⟨n,now⟩ []=some ⟨⟨n,now⟩,[],[]⟩:=by
 have b3:AY Td (.b2 [] ((0:Nat):Int) 0 ⟨n,now⟩ [] En [])=some ⟨⟨n,now⟩,[],[]⟩:=(AQ _ _).trans (by
  simp only[Td,DN,Bool.and_self,DN,SL,SM];rfl)
 have b2:AY Td (.b1 [] ⟨n,now⟩ [] En [])=some ⟨⟨n,now⟩,[],[]⟩:=(AQ _ _).trans (by
  simp only[Td,b3,List.length_nil,Bool.and_self,DN,SL,SM])
 refine(AQ _ _).trans ?_;simp only[Td,h,Zod,show (En.EP==3)=false from rfl,Bool.and_self,DN,SL,SM];rw[show ({ n with Low:=En }:Ae)=n by rw[<- h]];exact b2
theorem Zt3 (now:Int):tC ⟨[],[]⟩ now=some (⟨[],[]⟩,[],[]):=by
 have b1:∀z,AY bZ (.b1 now [] [] [] [] ((0:Nat):Int) 0 ⟨[],[]⟩ z)=some (⟨[],[]⟩,[],[]):=fun z=>(AQ _ _).trans (by
  simp only[bZ,Bool.and_self,DN,SL,SM];rfl)
 refine(AQ _ _).trans ?_;simp only[bZ,lF,List.length_nil,Bool.and_self,DN,SL,SM];exact b1 _
theorem acks0 (now:Int):uN ⟨[],[]⟩ now=some (⟨[],[]⟩,[]):=by
 have b1:∀z,AY dC (.b1 now [] ((0:Nat):Int) 0 ⟨[],[]⟩ z)=some (⟨[],[]⟩,[]):=fun z=>(AQ _ _).trans (by
  simp only[dC,Bool.and_self,DN,SL,SM];rfl)
 refine(AQ _ _).trans ?_;simp only[dC,lF,List.length_nil,Bool.and_self,DN,SL,SM];exact b1 _
theorem ZrG (n:Ae) (h:n.A7=⟨[],[]⟩) (now:Int):qX ⟨n,now⟩ []=some ⟨⟨n,now⟩,[],[],[]⟩:=by
 have z:({ n with A7:=⟨[],[]⟩ }:Ae)=n:=by rw[<- h]
 have b3:AY QB (.b3 [] ((0:Nat):Int) 0 ⟨n,now⟩ [] [] [])=some ⟨⟨n,now⟩,[],[],[]⟩:=(AQ _ _).trans (by
  simp only[QB,Bool.and_self,DN,SL,SM];rfl)
 have b2:AY QB (.b2 [] ((0:Nat):Int) 0 ⟨n,now⟩ [] ⟨[],[]⟩ [] [])=some ⟨⟨n,now⟩,[],[],[]⟩:=(AQ _ _).trans (by
  simp only[QB,show decide ((0:Int)<((0:Nat):Int))=false from rfl,h,acks0,z,List.length_nil,Bool.and_self,DN,SL,SM];exact b3)
 have b1:AY QB (.b1 [] [] ((0:Nat):Int) 0 ⟨n,now⟩ [] ⟨[],[]⟩ [] [])=some ⟨⟨n,now⟩,[],[],[]⟩:=(AQ _ _).trans (by
  simp only[QB,show decide ((0:Int)<((0:Nat):Int))=false from rfl,List.length_nil,Bool.and_self,DN,SL,SM];exact b2)
 refine(AQ _ _).trans ?_;simp only[QB,h,Zt3,z,List.length_nil,Bool.and_self,DN,SL,SM];exact b1
def Gs (now:Int) (x:BL):Bool:=decide (x.Em<=now)
noncomputable def H6 (B now:Int):List BL:=bif Int.tmod (Ad (now - Ad B)) 100==0 then [⟨now,F6,0⟩] else []
theorem Zn2 (now:Int) (l:List BL) (s:List BL×List BL):l.foldl (fun s x=>bif Gs now x then (s.1++[x],s.2) else (s.1,s.2++[x])) s=(s.1++l.filter (Gs now),s.2++l.filter fun x=>!Gs now x):=by
 induction l generalizing s with
 | nil=>simp
 | cons x l z=>
  rw[List.foldl_cons,z];cases h:Gs now x<;>simp[h]
theorem ZtI (B:Int) (r f:Bool) (C R:List Ar) (O:List BL) (S:O.length<=60) (s st now:Int) :
  AY MB (.b2 [] [] O O.length 0 ⟨nv B r f C R O s st,now⟩ [] [] [] [])=some ⟨O.filter (Gs now),⟨nv B r f C R (O.filter fun x=>!Gs now x) s st,now⟩,[],[],[],[],O⟩:=by
 have key:=Uz (fun(p:List BL×List BL) i=>AY MB (.b2 p.1 p.2 O O.length i ⟨nv B r f C R O s st,now⟩ [] [] [] [])) O (fun s x=>bif Gs now x then (s.1++[x],s.2) else (s.1,s.2++[x]))
  (fun p=>some ⟨p.1,⟨nv B r f C R p.2 s st,now⟩,[],[],[],[],O⟩) (fun i p=>p.1.length<=i/\p.2.length<=i)
  (fun i p hi G=>by
   have M:=G.1;have Q:=G.2;have b2:∀z D:List BL,AY MB (.b3 z D O O.length i ⟨nv B r f C R O s st,now⟩ [] [] [] [])=AY MB (.b2 z D O O.length ((i+1:Nat):Int) ⟨nv B r f C R O s st,now⟩ [] [] [] []):=fun z D=>(AQ _ _).trans (by
    simp(disch:=omega) only[MB,Bool.and_self,DN,SL,SM])
   refine⟨(AQ _ _).trans ?_,?_⟩
   ·have I:decide (O[i].Em<=now)=Gs now O[i]:=rfl;have a1:=Q4 p.1.length 1 40 (by omega) (by decide);have J:=Q4 p.2.length 1 40 (by omega) (by decide);simp(disch:=omega) only[MB,hi,I,b2,Bool.and_self,DN,SL,SM];cases Gs now O[i]<;>rfl
   ·cases Gs now O[i]
    ·exact⟨by simp only[cond_false];omega,by simp only[cond_false,List.length_append,List.length_cons,List.length_nil];omega⟩
    ·exact⟨by simp only[cond_true,List.length_append,List.length_cons,List.length_nil];omega,by simp only[cond_true];omega⟩)
  (fun p _=>(AQ _ _).trans (by simp only[MB,Int.lt_irrefl,Bool.and_self,DN,SL,SM])) ([],[]) ⟨Nat.zero_le _,Nat.zero_le _⟩
 have k:=key.1;rw[Zn2]at k;simpa using k
theorem mtick (B:Int) (r f:Bool) (C R:List Ar) (O:List BL) (hO:Y5 O) (s st now:Int) (hs:s<=1000) :
  rX ⟨nv B r f C R O s st,now⟩ []=some ⟨(O++H6 B now).filter (Gs now),⟨nv B r f C R ((O++H6 B now).filter fun x=>!Gs now x) s st,now⟩,[],[],[],[],O++H6 B now⟩:=by
 have hOl:=hO.len;have D:wW Gu now=some false:=(AQ _ _).trans rfl;have J:=Zna (nv B r f C R O s st) rfl now;have M:=ZrG (nv B r f C R O s st) rfl now;have I:xE ED now=some (ED,9):=(AQ _ _).trans rfl;have z:∃v,dI ED now=some v:=by
  have Q:∃x,dE ED now=some x:=⟨_,(AQ _ _).trans rfl⟩;obtain⟨x,Q⟩:=Q;cases x
  ·exact⟨_,(AQ _ _).trans (by simp only[vG,Q,show ED.GI=false from rfl,DN,SL,SM];rfl)⟩
  ·exact⟨_,(AQ _ _).trans (by simp only[vG,Q,show ED.GI=false from rfl,DN,SL,SM];rfl)⟩
 obtain⟨v,z⟩:=z;have G:decide (s>=8388608)=false:=decide_eq_false (by omega);have S:qG ⟨nv B r f C R O s st,now⟩ []=some ⟨⟨nv B r f C R (O++[⟨now,F6,0⟩]) s st,now⟩,[]⟩:=(AQ _ _).trans (by
  have Y:∀w:Je,w.Node.Keys=⟨0,Bv 3,I8⟩->Tc w=some (Bv 3):=fun w hw=>Z7T w _ hw;have he:Ws (Bv 3) ⟨(0:Int)==2,ED.GI,ED.Index⟩=some F6:=Z4o _ rfl;simp only[Z35,DN];rw[Y _ rfl];simp(disch:=omega) only[he,Bool.and_self,beq_self_eq_true,DN,SL,SM])
 have m1:=ZtI B r f C R (O++H6 B now) (by
  unfold H6;cases (Int.tmod (Ad (now - Ad B)) 100==0)<;>simp<;>omega) s st now
 have b1:AY MB (.b1 ⟨nv B r f C R O s st,now⟩ [] [] [] [])=some ⟨(O++H6 B now).filter (Gs now),⟨nv B r f C R ((O++H6 B now).filter fun x=>!Gs now x) s st,now⟩,[],[],[],[],O++H6 B now⟩:=by
  refine(AQ _ _).trans ?_;rw[<- m1];unfold H6;simp only[MB,Bool.and_self,DN,SL,SM];cases (Int.tmod (Ad (now - Ad B)) 100==0) with
  | true=>
   simp only[cond_true,S,Bool.and_self,DN,SL,SM]
  | false=>
   simp only[cond_false,List.append_nil];rfl
 refine(AQ _ _).trans ?_;simp only[MB,D,J,M,I,show ED.GI=false from rfl,z,G,b1,Bool.and_self,DN,SL,SM]
theorem Ztp (B:Int) (r f:Bool) (C R:List Ar) (O:List BL) (I:Y5 O) (J:C.length<=1000) (M:R.length<=1000) (s st now:Int) (Q:s<=1000) :
  fU (nv B r f C R O s st) now=some (nv B r f C R ((O++H6 B now).filter fun x=>!Gs now x) s st,(O++H6 B now).filter (Gs now),[]):=by
 have z:=Z14 B r f C R O s st J M I;have D:∃y,wL ⟨nv B r f C R O s st,now⟩ [] []=some y/\y.q0=⟨nv B r f C R ((O++H6 B now).filter fun x=>!Gs now x) s st,now⟩/\y.q1=(O++H6 B now).filter (Gs now)/\y.q2=[]:=⟨_,(AQ _ _).trans (by
  simp only[Z5B,mtick B r f C R O I s st now Q,Bool.and_self,DN,SL,SM];rfl),rfl,rfl,rfl⟩
 obtain⟨y,D,q0,q1,q2⟩:=D;have G:∃u,yD (nv B r f C R O s st) now []=some u/\u.q0=y.q0.Node/\u.q1=y.q2/\u.q2=y.q1:=⟨_,(AQ _ _).trans (by
  simp only[Z6o,z,D,Bool.and_self,DN,SL,SM];rfl),rfl,rfl,rfl⟩
 obtain⟨u,G,S,Y,u2⟩:=G;refine(AQ _ _).trans ?_;simp only[Z6F,G,Bool.and_self,DN,SL,SM];rw[S,Y,u2,q0,q1,q2]
theorem Z0Y (n:Ae) (M:QT n=some ⟨n⟩) (E:List Int) (now:Int) (n' : Ae) (ev:List BH) (c q o i) (h:UD E ⟨n,now⟩ []=some ⟨⟨n',now⟩,ev,c,q,o,i⟩):XJ n E now=some (n',ev):=by
 have z:∃y,wU ⟨n,now⟩ E []=some y/\y.q2=ev/\y.q0=⟨n',now⟩:=⟨_,(AQ _ _).trans (by simp only[Z5G,h,Bool.and_self,DN,SL,SM];rfl),rfl,rfl⟩;obtain⟨y,z,J,G⟩:=z;have C:∃u,yC n now E=some u/\u.q1=ev/\u.q0=n' :=⟨_,(AQ _ _).trans (by simp only[Z63,M,z,Bool.and_self,DN,SL,SM];rfl),J,by rw[G]⟩;obtain⟨u,C,I,D⟩:=C;exact(AQ _ _).trans (by simp only[Z6y,C,Bool.and_self,DN,SL,SM];rw[I,D])
def FH (i:Int) (b:List Int):DV:=⟨3,i,1,65535,127,true,b,0,0,0⟩
theorem Zpv (B i:Int) (b:List Int) (hm:Il B 127 b) (r f:Bool) (now:Int):yN (nv B r f [] [] [] 0 0) (FH i b) now=some (nv B r f [] [] [⟨now,mE B 127 b,0⟩] 1 100,[],0):=by
 have C:=Z14 B r f [] [] [] 0 0 (Nat.zero_le _) (Nat.zero_le _) ⟨Nat.zero_le _,fun _ J=>nomatch J⟩;have z:=Zte B b hm r f now;have D:rE (FH i b) ⟨nv B r f [] [] [] 0 0,now⟩ []=some ⟨0,⟨nv B r f [] [] [⟨now,mE B 127 b,0⟩] 1 100,now⟩,[],[],[]⟩:=(AQ _ _).trans (by
  simp only[Z3k,FH,z,Bool.and_self,DN,SL,SM])
 have G:vZ ⟨nv B r f [] [] [] 0 0,now⟩ (FH i b) 0 []=some ⟨⟨nv B r f [] [] [⟨now,mE B 127 b,0⟩] 1 100,now⟩,FH i b,0,[],[],[]⟩:=(AQ _ _).trans (by
  simp only[Z58,D,Bool.and_self,DN,SL,SM])
 have I:zT (nv B r f [] [] [] 0 0) now (FH i b) 0=some ⟨nv B r f [] [] [⟨now,mE B 127 b,0⟩] 1 100,[],FH i b,0⟩:=(AQ _ _).trans (by
  simp only[Z7v,C,G,Bool.and_self,DN,SL,SM])
 refine(AQ _ _).trans ?_;simp only[Z6f,I,GH,Bool.and_self,DN,SL,SM]
theorem I4 {α:Type} (i:Nat) (l:List α) (h:i<l.length):kI (i:Int) l=true:=by
 simp only[kI];exact decide_eq_true ⟨Int.natCast_nonneg i,by exact_mod_cast h⟩
theorem JK {α:Type} (i:Nat) (l:List α) (h:i<l.length):l[Int.toNat (i:Int)]? = some l[i]:=by
 rw[Int.toNat_natCast];exact List.getElem?_eq_getElem h
theorem Gt (i n:Nat) (h:i<n):decide ((i:Int)<(n:Int))=true:=decide_eq_true (by exact_mod_cast h)
theorem IG (n:Nat):decide ((n:Int)<(n:Int))=false:=decide_eq_false (by omega)
theorem KX (i n:Nat) (h:i<n):decide (0<=(i:Int)/\(i:Int)<(n:Int))=true:=decide_eq_true ⟨Int.natCast_nonneg i,by exact_mod_cast h⟩
def Sv (a b:BR):Prop:=a.A<b.A\/(a.A=b.A/\a.B<b.B)
structure LM (n:Nat) (L:List BR):Prop where
 rg:∀l∈L,0<=l.A/\l.A<l.B/\l.B<n
 srt:L.Pairwise Sv
theorem Z8H (n:Nat) (l:List Int) (h:l.Pairwise (· < ·)) (hb:∀x∈l,0<=x/\x<n):l.length<=n:=by
 have G:(l.map Int.toNat).Nodup:=by
  rw[List.Nodup,List.pairwise_map];refine h.imp_of_mem ?_;intro a b C z D;have:=hb a C;have:=hb b z;omega
 have:=XU n (l.map Int.toNat) G (fun x I=>by
  obtain⟨y,J,rfl⟩:=List.mem_map.1 I;have:=hb y J;omega)
 simpa using this
theorem LM.len {n:Nat} {L:List BR} (h:LM n L) (J:n<=16):L.length<=256:=by
 have C:=Z8H 256 (L.map fun l=>l.A*16+l.B) (by
  rw[List.pairwise_map];refine h.srt.imp_of_mem ?_;intro a b D hb z;have:=h.rg a D;have:=h.rg b hb;rcases z with h|⟨h,h'⟩<;>omega) (fun x I=>by
  obtain⟨l,G,rfl⟩:=List.mem_map.1 I;have:=h.rg l G;omega)
 simpa using C
def NR (i:Int) (l:BR):Option Int:=bif i==l.A then some l.B else bif i==l.B then some l.A else none
def Ey (L:List BR) (i:Int):List Int:=L.filterMap (NR i)
theorem Z08 {i:Int} {l:BR} {x:Int} (h:NR i l=some x):(i=l.A/\x=l.B)\/(i≠l.A/\i=l.B/\x=l.A):=by
 unfold NR at h
 by_cases z:i=l.A
 ·rw[beq_iff_eq.2 z]at h;exact .inl ⟨z,by simpa using h.symm⟩
 ·rw[beq_eq_false_iff_ne.2 z]at h
  by_cases C:i=l.B
  ·rw[beq_iff_eq.2 C]at h;exact .inr ⟨z,C,by simpa using h.symm⟩
  ·rw[beq_eq_false_iff_ne.2 C]at h;cases h
theorem Z18 {n:Nat} {L:List BR} (h:LM n L) (i:Int):(Ey L i).Pairwise (· < ·):=by
 unfold Ey;rw[List.pairwise_filterMap];refine h.srt.imp_of_mem ?_;intro a b D hb z x G y I;have M:=h.rg a D;have Q:=h.rg b hb;unfold Sv at z;rcases Z08 G with ⟨C,rfl⟩|⟨J,C,rfl⟩<;>rcases Z08 I with ⟨f1,rfl⟩|⟨f0,f1,rfl⟩<;>rcases z with h|⟨h,h'⟩<;>omega
theorem nG {n:Nat} {L:List BR} (h:LM n L) (i x:Int) (z:x∈Ey L i):0<=x/\x<n:=by
 obtain⟨l,C,z⟩:=List.mem_filterMap.1 z;have:=h.rg l C;rcases Z08 z with ⟨_,rfl⟩|⟨_,_,rfl⟩<;>omega
theorem YC {n:Nat} {L:List BR} (h:LM n L) (i:Int):(Ey L i).length<=n:=Z8H n _ (Z18 h i) (nG h i)
theorem ZnU (x:Int) (z:0<=x) (C:x<256):∃r,uZ x=some r:=by
 have b3:∃r,AY QI (.b3 x 0)=some r:=by
  have J:IntKind.wrap .u8 x=x:=TN z C;rw[AQ];simp only[QI,J,DN];rw[Bool.cond_decide];split
  ·exact⟨_,rfl⟩
  ·rename_i h;exact absurd ⟨z,C⟩ h
 obtain⟨r,b3⟩:=b3;have D:decide (x>=256)=false:=decide_eq_false (by omega);have G:decide (x>=65536)=false:=decide_eq_false (by omega);have I:decide (x>=4294967296)=false:=decide_eq_false (by omega);have b2:AY QI (.b2 x 0)=some r:=(AQ _ _).trans (by simp only[QI,D,DN,SL,SM];exact b3);have b1:AY QI (.b1 x 0)=some r:=(AQ _ _).trans (by simp only[QI,G,DN,SL,SM];exact b2);have b0:tK x=some r:=(AQ _ _).trans (by simp only[QI,I,DN,SL,SM];exact b1);exact⟨r,(AQ _ _).trans (by simp only[Z4E,b0,DN,SL,SM])⟩
theorem ZnD (x y:Int):wC x y=some (decide (x<y)):=by
 have h:dG x=some false:=(AQ _ _).trans (by simp only[Z4C,GH,DN,SL,SM]);exact(AQ _ _).trans (by simp only[Z59,h,DN,SL,SM])
theorem Zmn (l:List Int) (R:l.length<=1000) (J:l.Pairwise (· < ·)):oH l 0 l.length=some ⟨l⟩:=by
 have key:∀d i:Nat,1<=i->l.length<=i+d->AY NU (.b1 l 0 l.length i)=some ⟨l⟩:=by
  intro d;induction d with
  | zero=>
   intro i D hi;have G:decide ((i:Int)<(l.length:Int))=false:=decide_eq_false (by omega);exact(AQ _ _).trans (by simp only[NU,G,DN,cond_false])
  | succ d Q=>
   intro i D hi
   by_cases z:i<l.length
   ·have b4:AY NU (.b3 l 0 l.length i)=some ⟨l⟩:=(AQ _ _).trans (by
     simp only[NU,Gi i (by omega),DN,SL,SM];exact Q (i+1) (by omega) (by omega))
    have M:Ad ((i:Int) - 1)=((i - 1:Nat):Int):=by rw[Ez (by omega) (by omega)];omega
    have I:decide ((i:Int)>0)=true:=decide_eq_true (by omega);have C:decide (l[i]<l[i - 1])=false:=decide_eq_false (by
     have:=List.pairwise_iff_getElem.1 J (i - 1) i (by omega) z (by omega);omega)
    have b2:AY NU (.b2 l 0 l.length i i)=some ⟨l⟩:=(AQ _ _).trans (by
     simp only[NU,I,M,DN,KX i _ z,KX (i - 1) l.length (by omega),JK i l z,JK (i - 1) l (by omega),ZnD,C,cond_true,cond_false,Option.bind_some,b4,I4 i l z,I4 (i - 1) l (by omega)])
    exact(AQ _ _).trans (by
     simp only[NU,DN,Gt i _ z,cond_true,b2])
   ·have G:decide ((i:Int)<(l.length:Int))=false:=decide_eq_false (by omega);exact(AQ _ _).trans (by simp only[NU,G,DN,cond_false])
 have D:Ad ((0:Int)+1)=((1:Nat):Int):=rfl;refine(AQ _ _).trans ?_;simp only[NU,D,DN,cond_true];exact key l.length 1 (by omega) (by omega)
theorem ZaJ (l:List Int) (I:l.length<=12) (D:l.Pairwise (· < ·)):UT l=some ⟨l⟩:=by
 obtain⟨r,C⟩:=ZnU l.length (by omega) (by omega);have G:IntKind.wrap .u64 (l.length:Int)=l.length:=wu64 (by omega) (by omega);have z:decide (Ad ((l.length:Int) - 0)<=12)=true:=decide_eq_true (by rw[Ez (by omega) (by omega)];omega);have b1:AY Yk (.b1 l 0 l.length r true true)=some ⟨l⟩:=(AQ _ _).trans (by
  simp only[Yk,z,Zmn l (by omega) D,DN,SL,SM])
 have b0:oO l 0 l.length r=some ⟨l⟩:=(AQ _ _).trans (by
  simp only[Yk,b1,DN,SL,SM])
 exact(AQ _ _).trans (by simp only[Z45,G,C,b0,DN,SL,SM])
theorem Z9U (i:Int) (L:List BR) (s:List Int):L.foldl (fun s x=>s++(NR i x).toList) s=s++Ey L i:=by
 induction L generalizing s with
 | nil=>simp[Ey]
 | cons x L z=>
  rw[List.foldl_cons,z];unfold Ey;rw[List.filterMap_cons];cases NR i x<;>simp
theorem ZjK (m:Aq) (i:Int) (n:Nat) (J:n<=12) (h:LM n m.BA):Wh m i=some (Ey m.BA i):=by
 have I:=h.len (by omega);have D:=YC h i;refine(AQ _ _).trans ?_;have key:=Uz (fun(s:List Int) k=>AY QG (.b1 i s m.BA m.BA.length k)) m.BA (fun s x=>s++(NR i x).toList) (fun s=>(UT s).bind fun y=>bif y.q0.length==s.length then some y.q0 else none) (fun k s=>s.length<=k)
  (fun k s C G=>by
   refine⟨(AQ _ _).trans ?_,?_⟩
   ·have b2:∀z,AY QG (.b2 i z m.BA m.BA.length k)=AY QG (.b1 i z m.BA m.BA.length ((k+1:Nat):Int)):=fun z =>(AQ _ _).trans (by
     simp(disch:=omega) only[QG,DN,SL,SM])
    have a1:=Q4 s.length 1 8 (by omega) (by decide);simp(disch:=omega) only[QG,C,b2,DN,SL,SM];unfold NR;cases (i==m.BA[k].A)<;>cases (i==m.BA[k].B)<;>simp
   ·unfold NR;cases (i==m.BA[k].A)<;>cases (i==m.BA[k].B)<;>simp<;>omega)
  (fun s G=>(AQ _ _).trans (by
   simp only[QG,Int.lt_irrefl,DN,SL,SM];rfl)) [] (Nat.zero_le _)
 have k1:=key.1;rw[Z9U,List.nil_append]at k1;simp only[QG,DN,SL,SM];refine k1.trans ?_;rw[ZaJ _ (by omega) (Z18 h i),Option.bind_some];simp
theorem ZiD (m:Aq) (i:Int) (n:Nat) (J:n<=12) (h:LM n m.BA):rP m i=some ⟨Ey m.BA i,m.Ak,m.BA,m.BG,m.Flight,m.Notes⟩:=by
 have I:=h.len (by omega);have D:=YC h i;refine(AQ _ _).trans ?_;have key:=Uz (fun(s:List Int) k=>AY QD (.b1 i s m.BA m.BA.length k m.Ak m.BG m.Flight m.Notes)) m.BA (fun s x=>s++(NR i x).toList) (fun s=>(UT s).bind fun y=>bif y.q0.length==s.length then some ⟨y.q0,m.Ak,m.BA,m.BG,m.Flight,m.Notes⟩ else none) (fun k s=>s.length<=k)
  (fun k s C G=>by
   refine⟨(AQ _ _).trans ?_,?_⟩
   ·have b2:∀z,AY QD (.b2 i z m.BA m.BA.length k m.Ak m.BG m.Flight m.Notes)=AY QD (.b1 i z m.BA m.BA.length ((k+1:Nat):Int) m.Ak m.BG m.Flight m.Notes):=fun z =>(AQ _ _).trans (by
     simp(disch:=omega) only[QD,DN,SL,SM])
    have a1:=Q4 s.length 1 8 (by omega) (by decide);simp(disch:=omega) only[QD,C,b2,DN,SL,SM];unfold NR;cases (i==m.BA[k].A)<;>cases (i==m.BA[k].B)<;>simp
   ·unfold NR;cases (i==m.BA[k].A)<;>cases (i==m.BA[k].B)<;>simp<;>omega)
  (fun s G=>(AQ _ _).trans (by
   simp only[QD,Int.lt_irrefl,DN,SL,SM];rfl)) [] (Nat.zero_le _)
 have k1:=key.1;rw[Z9U,List.nil_append]at k1;simp only[QD,DN,SL,SM];refine k1.trans ?_;rw[ZaJ _ (by omega) (Z18 h i),Option.bind_some];simp
structure Pr where
 n:Nat
 s:Nat
 r:Nat->Bool
 f:Nat->Bool
 sq:Nat->Int
 st:Nat->Int
 b:List Int
 L:List BR
structure FU (p:Pr):Prop where
 n8:p.n<=8
 sn:p.s<p.n
 sq:∀i,p.sq i<=1000
 b0:p.b≠[]
 b1:p.b.length<=11
 b2:Bytes p.b
 L:LM p.n p.L
def aV (p:Pr):Int:=(p.s:Int)+50
def idV (p:Pr):Ar:=⟨aV p,0,0⟩
def Ls (p:Pr) (h:Bool):List Ar:=bif h then [idV p] else []
noncomputable def IX (p:Pr) (A8:Int):List Int:=mE (aV p) A8 p.b
noncomputable def nd (p:Pr) (h:Nat->Bool) (o:Nat->List BL) (i:Nat):Ae:=nv ((i:Int)+50) (p.r i) (p.f i) (Ls p (h i)) (Ls p (h i)) (o i) (p.sq i) (p.st i)
noncomputable def EZ (p:Pr) (h:Nat->Bool) (o:Nat->List BL):List Ae:=(List.range p.n).map (nd p h o)
noncomputable abbrev I5 (p:Pr) (h:Nat->Bool) (o:Nat->List BL) (fl:List CS) (nt:List EE) (cnt now:Int):Aq:=⟨EZ p h o,p.L,[],cnt,now,fl,nt⟩
theorem FU.msg {p:Pr} (h:FU p) {A8:Int} (z:1<=A8) (C:A8<=127):Il (aV p) A8 p.b:=
 ⟨by unfold aV;omega,by have:=h.n8;have:=h.sn;unfold aV;omega,z,C,h.b0,h.b1,h.b2⟩
theorem VL (p:Pr) (h:Nat->Bool) (o:Nat->List BL):(EZ p h o).length=p.n:=by simp[EZ]
theorem jY (p:Pr) (h:Nat->Bool) (o:Nat->List BL) (i:Nat) (hi:i<p.n):(EZ p h o)[i]? = some (nd p h o i):=by
 simp[EZ,hi]
def upd {α:Type} (g:Nat->α) (j:Nat) (v:α):Nat->α:=fun i=>bif i==j then v else g i
theorem upd_same {α:Type} (g:Nat->α) (j:Nat) (v:α):upd g j v j=v:=by simp[upd]
theorem Oz {α:Type} (g:Nat->α) (j:Nat) (v:α) {i:Nat} (h:i≠j):upd g j v i=g i:=by
 unfold upd;rw[beq_eq_false_iff_ne.2 h];rfl
theorem Z0g (p:Pr) (h:Nat->Bool) (o:Nat->List BL) (j:Nat) (h' : Nat->Bool) (o' : Nat->List BL) (hh:∀i,i≠j->h' i=h i) (C:∀i,i≠j->o' i=o i):(EZ p h o).set j (nd p h' o' j)=EZ p h' o' :=by
 refine List.ext_getElem (by simp[EZ]) fun i D z=>?_;rw[List.getElem_set];have hi:i<p.n:=by simpa[EZ]using z
 split
 ·rename_i e;subst e;simp[EZ]
 ·rename_i e;simp[EZ,nd,hh i (fun h=>e h.symm),C i (fun h=>e h.symm)]
theorem Z0c (i:Int) (m:Aq):Uc i [] m=some ⟨m⟩:=by
 have b1:AY Oe (.b1 i [] ((0:Nat):Int) 0 m)=some ⟨m⟩:=(AQ _ _).trans (by
  simp only[Oe,show decide ((0:Int)<((0:Nat):Int))=false from rfl,DN,cond_false,cond_true,Bool.and_self])
 refine(AQ _ _).trans ?_;simp only[Oe,List.length_nil,DN,cond_true];exact b1
theorem Zr9 (i:Int) (e:BH) (m:Aq) (hb:e.Ik.Bytes.length<=1000) (G:m.Notes.length<=500000):Uc i [e] m=some ⟨{ m with Notes:=m.Notes++[⟨i,m.Now,e⟩] }⟩:=by
 have b1:∀m:Aq,AY Oe (.b1 i [e] ((1:Nat):Int) ((1:Nat):Int) m)=some ⟨m⟩:=fun m=>(AQ _ _).trans (by
  simp only[Oe,IG,DN,cond_false,cond_true,Bool.and_self])
 have D:Ad ((0:Int)+1)=((1:Nat):Int):=rfl;have b0:AY Oe (.b1 i [e] ((1:Nat):Int) 0 m)=some ⟨{ m with Notes:=m.Notes++[⟨i,m.Now,e⟩] }⟩:=(AQ _ _).trans (by
  have hc:=Z19 e.Ik.Bytes (by omega);have a1:=Q4 m.Notes.length 1 96 (by omega) (by decide);have g0:([e])[Int.toNat 0]? = some e:=rfl;have z:decide ((0:Int)<((1:Nat):Int))=true:=rfl;have C:decide ((0:Int)<=0/\(0:Int)<(([e].length:Nat):Int))=true:=rfl;simp only[Oe,z,C,g0,hc,D,List.length_cons,List.length_nil,Nat.zero_add,a1,Option.bind_some,DN,cond_true,beq_self_eq_true,Bool.and_self];exact b1 _)
 refine(AQ _ _).trans ?_;simp only[Oe,List.length_cons,List.length_nil,DN,cond_true];exact b0
def P8 (L:List BR) (i due:Int) (bs:List Int):List CS:=(Ey L i).map fun j=>⟨i,j,due,bs⟩
theorem Zph (x:DK):qB [] x=some false:=by
 have b1:AY aT (.b1 [] ((0:Nat):Int) 0 x)=some (-1):=(AQ _ _).trans (by
  simp only[aT,show decide ((0:Int)<((0:Nat):Int))=false from rfl,DN,cond_false])
 have z:rV [] x=some (-1):=(AQ _ _).trans (by
  simp only[aT,List.length_nil,DN];exact b1)
 exact(AQ _ _).trans (by simp only[Z2R,z,DN,Option.bind_some];rfl)
theorem Zm2 (n:Nat) (J:n<=12) (i:Int) (bs:List Int) (hb:bs.length<=1000) (m:Aq) (C:LM n m.BA) (D:m.BG=[]) (Q:m.Flight.length<=100000) :
  tX i bs m=some ⟨{ m with Count:=Ad (m.Count+1),Flight:=m.Flight++P8 m.BA i (Ad (m.Now+1)) bs }⟩:=by
 have M:=YC C i;have z:=ZiD { m with Count:=Ad (m.Count+1) } i n J C;have key:=Uz (fun(fl:List CS) k=>AY QL (.b1 i bs (Ey m.BA i) (Ey m.BA i).length k { m with Count:=Ad (m.Count+1),Flight:=fl })) (Ey m.BA i) (fun fl j=>fl++[⟨i,j,Ad (m.Now+1),bs⟩]) (fun fl=>some ⟨{ m with Count:=Ad (m.Count+1),Flight:=fl }⟩) (fun k fl=>fl.length<=100000+k)
  (fun k fl I G=>by
   refine⟨(AQ _ _).trans ?_,by simp only[List.length_append,List.length_cons,List.length_nil];omega⟩;have b2:∀q:Aq,AY QL (.b2 i bs (Ey m.BA i) (Ey m.BA i).length k q)=AY QL (.b1 i bs (Ey m.BA i) (Ey m.BA i).length ((k+1:Nat):Int) q):=fun q=>(AQ _ _).trans (by
    simp(disch:=omega) only[QL,DN,SL,SM])
   have a1:=Q4 fl.length 1 48 (by omega) (by decide);have hc:=Z19 bs (by omega);simp(disch:=omega) only[QL,I,b2,D,Zph,hc,a1,Bool.and_self,DN,SL,SM])
  (fun fl _=>(AQ _ _).trans (by simp only[QL,Int.lt_irrefl,DN,SL,SM])) m.Flight (by omega)
 have k1:=key.1;rw[Z7M (fun j=>[(⟨i,j,Ad (m.Now+1),bs⟩:CS)])]at k1;refine(AQ _ _).trans ?_;simp only[QL,z,DN,Option.bind_some,cond_true];refine k1.trans ?_;rw[show ((Ey m.BA i).flatMap fun j=>[(⟨i,j,Ad (m.Now+1),bs⟩:CS)])=P8 m.BA i (Ad (m.Now+1)) bs from(List.map_eq_flatMap).symm]
structure nO (p:Pr) (A8 now:Int) (x:CS):Prop where
 due:x.Em=now
 to:∃j:Nat,j<p.n/\x.To=j
 bs:x.Bytes=F6\/x.Bytes=IX p A8
def hits (p:Pr) (A8:Int) (l:List CS) (j:Nat):Prop:=∃x∈l,x.To=j/\x.Bytes=IX p A8
structure Jy (p:Pr) (A8 now:Int) (l:List CS) (h:Nat->Bool) (o:Nat->List BL) (nt:List EE) (h' : Nat->Bool) (o' : Nat->List BL) (nt' : List EE):Prop where
 hh:∀j,h' j=true↔h j=true\/(j≠p.s/\hits p A8 l j)
 oo:∀j,o' j=bif h' j && !h j then o j++Ir (p.r j) (aV p) A8 p.b now else o j
 nn:∀j:Nat,(nt'.filter fun x=>x.Node==(j:Int)).length=(nt.filter fun x=>x.Node==(j:Int)).length+(bif h' j && !h j then 1 else 0)
 ne:∀x∈nt',x∈nt\/x.Event=KU (aV p) A8 p.b
 nl:nt'.length<=nt.length+l.length
theorem Jy.nil (p:Pr) (A8 now:Int) (h o nt):Jy p A8 now [] h o nt h o nt:=
 ⟨fun j=>⟨.inl,fun q=>q.elim id fun⟨_,x,z,_⟩=>nomatch z⟩,fun j=>by cases h j<;>rfl,fun j=>by cases h j<;>rfl,fun x z=>.inl z,Nat.le_add_right _ _⟩
theorem Jy.skip {p:Pr} {A8 now:Int} {l:List CS} {h o nt h' o' nt'} (x:CS) (z:∀j:Nat,x.To=j->x.Bytes=IX p A8->h j=true\/j=p.s) (H:Jy p A8 now l h o nt h' o' nt'):Jy p A8 now (x::l) h o nt h' o' nt' :=by
 refine⟨fun j=>?_,H.oo,H.nn,H.ne,by have:=H.nl;rw[List.length_cons];omega⟩;rw[H.hh j];constructor
 ·rintro (q|⟨q,y,hy,q2⟩)
  ·exact .inl q
  ·exact .inr ⟨q,y,List.mem_cons_of_mem _ hy,q2⟩
 ·rintro (q|⟨q,y,hy,q1,q2⟩)
  ·exact .inl q
  ·rcases List.mem_cons.1 hy with rfl|hy
   ·exact .inl ((z j q1 q2).resolve_right q)
   ·exact .inr ⟨q,y,hy,q1,q2⟩
theorem Jy.take {p:Pr} {A8 now:Int} {l:List CS} {h o nt h' o' nt'} (x:CS) (z:Nat) (G:h z=false) (J:z≠p.s) (I:x.To=z) (M:x.Bytes=IX p A8)
  (H:Jy p A8 now l (upd h z true) (upd o z (o z++Ir (p.r z) (aV p) A8 p.b now)) (nt++[⟨z,now,KU (aV p) A8 p.b⟩]) h' o' nt'):Jy p A8 now (x::l) h o nt h' o' nt' :=by
 have C:h' z=true:=(H.hh z).2 (.inl (upd_same _ _ _));refine⟨fun j=>?_,fun j=>?_,fun j=>?_,fun y hy=>?_,by have:=H.nl;rw[List.length_append]at this;simp only[List.length_cons,List.length_nil]at *;omega⟩
 ·by_cases D:j=z
  ·subst D;exact⟨fun _=>.inr ⟨J,x,List.mem_cons_self,I,M⟩,fun _=>C⟩
  ·rw[H.hh j,Oz _ _ _ D];constructor
   ·rintro (q|⟨q,y,hy,q2⟩)
    ·exact .inl q
    ·exact .inr ⟨q,y,List.mem_cons_of_mem _ hy,q2⟩
   ·rintro (q|⟨q,y,hy,q1,q2⟩)
    ·exact .inl q
    ·rcases List.mem_cons.1 hy with rfl|hy
     ·rw[I]at q1;exact absurd (by exact_mod_cast q1.symm) D
     ·exact .inr ⟨q,y,hy,q1,q2⟩
 ·have:=H.oo j
  by_cases D:j=z
  ·subst D;rw[upd_same,upd_same,C]at this;rw[C,G];exact this
  ·rw[Oz _ _ _ D,Oz _ _ _ D]at this;exact this
 ·have:=H.nn j;rw[List.filter_append,List.length_append]at this
  by_cases D:j=z
  ·subst D;rw[upd_same,C]at this;rw[this,C,G];simp
  ·rw[Oz _ _ _ D]at this;rw[this];have:(((z:Nat):Int)==(j:Int))=false:=beq_eq_false_iff_ne.2 (by omega);simp[this]
 ·rcases H.ne y hy with q|q
  ·rcases List.mem_append.1 q with q|q
   ·exact .inl q
   ·rw[List.mem_singleton.1 q];exact .inr rfl
  ·exact .inr q
theorem Z10 (p:Pr) (A8:Int):F6≠IX p A8:=fun e=>by
 have:=congrArg List.length e;rw[Rl,IX,YL]at this;omega
structure OK (h:Nat->Bool) (o:Nat->List BL):Prop where
 l1:∀j,(o j).length<=20
 l2:∀j,h j=false->(o j).length<=10
 sm:∀j,∀x∈o j,x.Bytes.length<=1000
theorem OK.out {h o} (k:OK h o) (j:Nat):Y5 (o j):=⟨Nat.le_trans (k.l1 j) (by decide),k.sm j⟩
theorem Zrs (r:Bool) (a A8:Int) (b:List Int) (now:Int):(Ir r a A8 b now).length<=1:=by unfold Ir;split<;>simp
theorem ZnQ {p:Pr} (C:FU p) (r:Bool) (A8 now:Int):∀x∈Ir r (aV p) A8 p.b now,x.Bytes.length<=1000:=fun x z=>by
 have:=C.b1;unfold Ir at z;split at z
 ·rw[List.mem_singleton.1 z];show (mE _ _ _).length<=1000;rw[YL];omega
 ·cases z
theorem OK.upd {h o} {p:Pr} (G:FU p) (k:OK h o) (z:Nat) (D:h z=false) (A8 now:Int):OK (upd h z true) (upd o z (o z++Ir (p.r z) (aV p) A8 p.b now)):=by
 refine⟨fun j=>?_,fun j C=>?_,fun j x hx=>?_⟩
 ·by_cases e:j=z
  ·subst e;rw[upd_same,List.length_append];have:=k.l2 j D;have:=Zrs (p.r j) (aV p) A8 p.b now;omega
  ·rw[Oz _ _ _ e];exact k.l1 j
 ·by_cases e:j=z
  ·subst e;rw[upd_same]at C;cases C
  ·rw[Oz _ _ _ e]at C ⊢;exact k.l2 j C
 ·by_cases e:j=z
  ·subst e;rw[upd_same]at hx;rcases List.mem_append.1 hx with hx|hx
   ·exact k.sm j x hx
   ·exact ZnQ G _ _ _ x hx
  ·rw[Oz _ _ _ e]at hx;exact k.sm j x hx
theorem jR (p:Pr) (h:Bool):(Ls p h).length<=1000:=by unfold Ls;cases h<;>simp
theorem Z0q {p:Pr} {h o} (k:OK h o) (j:Nat):QT (nd p h o j)=some ⟨nd p h o j⟩:=Z14 _ _ _ _ _ _ _ _ (jR _ _) (jR _ _) (k.out j)
theorem Zpo {p:Pr} (G:FU p) {A8 now:Int} (I:2<=A8/\A8<=127) (C:0<=now/\now<=1000) {h o} (k:OK h o) (j:Nat) (R:j<p.n) (bs:List Int) (hb:bs=F6\/bs=IX p A8) :
  (XJ (nd p h o j) bs now=some (nd p h o j,[])/\(bs=IX p A8->h j=true\/j=p.s)) \/
  (XJ (nd p h o j) bs now=some (nd p (upd h j true) (upd o j (o j++Ir (p.r j) (aV p) A8 p.b now)) j,[KU (aV p) A8 p.b])/\h j=false/\j≠p.s/\bs=IX p A8):=by
 have Q:=G.n8;have hm:=G.msg (A8:=A8) (by omega) I.2;rcases hb with rfl|rfl
 ·obtain⟨c,q,e⟩:=Zo2 ((j:Int)+50) (p.r j) (p.f j) (Ls p (h j)) (Ls p (h j)) (o j) (p.sq j) (p.st j) now;exact .inl ⟨Z0Y _ (Z0q k j) _ _ _ _ _ _ _ _ e,fun e=>absurd e (Z10 p A8)⟩
 ·by_cases z:h j=true\/j=p.s
  ·obtain⟨c,q,e⟩:=Zp0 (aV p) A8 p.b hm ((j:Int)+50) (p.r j) (p.f j) (Ls p (h j)) (o j) (Ls p (h j)) (by
    rcases z with e|e
    ·rw[e];exact .inl rfl
    ·subst e;exact .inr rfl) (p.sq j) (p.st j) now
   exact .inl ⟨Z0Y _ (Z0q k j) _ _ _ _ _ _ _ _ e,fun _=>z⟩
  ·have D:h j=false:=by cases e:h j with
    | true=>exact absurd (.inl e) z
    | false=>rfl
   have M:j≠p.s:=fun e=>z (.inr e);have e:=ZoE (aV p) A8 p.b hm I.1 ((j:Int)+50) ⟨by omega,by omega⟩ (by unfold aV;omega) (p.r j) (p.f j) (o j) (k.out j) (p.sq j) (p.st j) now C;refine .inr ⟨?_,D,M,rfl⟩;have J :=Z0Y (nd p h o j) (Z0q k j) (IX p A8) now _ _ _ _ _ _ (by
    unfold nd;rw[D];exact e)
   rw[J];unfold nd;rw[upd_same,upd_same];rfl
theorem Zol {p:Pr} (Y:FU p) {A8 now:Int} (ht:2<=A8/\A8<=127) (Q:0<=now/\now<=1000) (cnt:Int) (fl:List CS) (hfl:fl.length<=100000) (hk:∀x∈fl,nO p A8 now x):∀d i:Nat,i+d=fl.length->∀h o nt,OK h o->nt.length<=300000+i ->
  ∃h' o' nt',AY N7 (.b2 fl fl.length i (I5 p h o [] nt cnt now))=some ⟨I5 p h' o' [] nt' cnt now⟩/\Jy p A8 now (fl.drop i) h o nt h' o' nt' /\ OK h' o' :=by
 intro d;induction d with
 | zero=>
  intro i hi h o nt k S;obtain rfl:i=fl.length:=by omega
  refine⟨h,o,nt,(AQ _ _).trans ?_,by rw[List.drop_length];exact Jy.nil _ _ _ _ _ _,k⟩;simp only[N7,IG,DN,cond_false,cond_true,Bool.and_self]
 | succ d ih=>
  intro i hi h o nt k S;have z:i<fl.length:=by omega
  have hx:=hk fl[i] (List.getElem_mem z);obtain⟨j,R,D⟩:=hx.to;have hd:fl.drop i=fl[i]::fl.drop (i+1):=List.drop_eq_getElem_cons z;have G:=VL p h o;have J:=jY p h o j R;have M:decide (0<=(j:Int)/\(j:Int)<(p.n:Int))=true:=KX j p.n R;rcases Zpo Y ht Q k j R fl[i].Bytes hx.bs with ⟨e,he⟩|⟨e,e0,e1,e2⟩
  ·obtain⟨h',o',nt',q1,q2,q3⟩:=ih (i+1) (by omega) h o nt k (by omega);refine⟨h',o',nt',(AQ _ _).trans ?_,?_,q3⟩
   ·have C:(EZ p h o).set j (nd p h o j)=EZ p h o:=Z0g p h o j h o (fun _ _=>rfl) (fun _ _=>rfl);simp only[N7,Gt i _ z,KX i _ z,List.getElem?_eq_getElem z,List.length_set,D,G,M,Int.toNat_natCast,J,e,C,Z0c,Gi i (by omega),Nat.zero_le,decide_true,beq_self_eq_true,DN,Option.bind_some,cond_true,Bool.and_self,q1]
   ·rw[hd];exact q2.skip _ fun j' h1 h2=>by
     rw[D]at h1;obtain rfl:j=j' :=by exact_mod_cast h1
     exact he h2
  ·obtain⟨h',o',nt',q1,q2,q3⟩:=ih (i+1) (by omega) _ _ (nt++[⟨j,now,KU (aV p) A8 p.b⟩]) (k.upd Y j e0 A8 now) (by rw[List.length_append,List.length_cons,List.length_nil];omega);refine⟨h',o',nt',(AQ _ _).trans ?_,?_,q3⟩
   ·have C:=Z0g p h o j (upd h j true) (upd o j (o j++Ir (p.r j) (aV p) A8 p.b now)) (fun i hi=>Oz _ _ _ hi) (fun i hi=>Oz _ _ _ hi);have hb1:=Y.b1;have I:=Zr9 (j:Int) (KU (aV p) A8 p.b) (I5 p (upd h j true) (upd o j (o j++Ir (p.r j) (aV p) A8 p.b now)) [] nt cnt now) (show p.b.length<=1000 by omega) (show nt.length<=500000 by omega);simp only[N7,Gt i _ z,KX i _ z,List.getElem?_eq_getElem z,List.length_set,D,G,M,Int.toNat_natCast,J,e,C,I,Gi i (by omega),Nat.zero_le,decide_true,beq_self_eq_true,DN,Option.bind_some,cond_true,Bool.and_self,q1]
   ·rw[hd];exact Jy.take _ j e0 e1 D e2 q2
theorem ZoJ {p:Pr} (J:FU p) {A8 now:Int} (M:2<=A8/\A8<=127) (z:0<=now/\now<=1000) (cnt:Int) (fl:List CS) (C:fl.length<=100000) (G:∀x∈fl,nO p A8 now x) (h o nt) (k:OK h o) (D:nt.length<=300000) :
  ∃h' o' nt',U1 (I5 p h o fl nt cnt now)=some ⟨I5 p h' o' [] nt' cnt now⟩/\Jy p A8 now fl h o nt h' o' nt' /\ OK h' o' :=by
 obtain⟨h',o',nt',q1,q2,q3⟩:=Zol J M z cnt fl C G fl.length 0 (by omega) h o nt k D;refine⟨h',o',nt',?_,q2,q3⟩;have I:NI (I5 p h o fl nt cnt now)=true:=by
  unfold NI;rw[Bool.and_eq_true,Bool.and_eq_true,Bool.and_eq_true];exact⟨⟨decide_eq_true C,List.all_eq_true.2 fun x Q=>beq_iff_eq.2 (G x Q).due⟩,decide_eq_true (show now<1000000000 by omega),decide_eq_true z.1⟩
 have b1:AY N7 (.b1 fl (I5 p h o [] nt cnt now))=some ⟨I5 p h' o' [] nt' cnt now⟩:=(AQ _ _).trans (by
  simp only[N7,DN,cond_true];exact q1)
 unfold U1;rw[I];exact b1
theorem jA {α D:Type} (g:α->List D) (c:Nat) (l:List α) (h:∀x∈l,(g x).length<=c):(l.flatMap g).length<=c*l.length:=by
 induction l with
 | nil=>simp
 | cons x l C=>
  rw[List.flatMap_cons,List.length_append,List.length_cons,Nat.mul_succ];have:=h x List.mem_cons_self;have:=C fun y z=>h y (List.mem_cons_of_mem _ z);omega
noncomputable def Y0 (o:Nat->List BL) (now:Int) (j:Nat):List BL:=o j++H6 ((j:Int)+50) now
noncomputable def P6 (o:Nat->List BL) (now:Int) (j:Nat):List BL:=(Y0 o now j).filter fun x=>!Gs now x
noncomputable def O3 (o:Nat->List BL) (now:Int) (j:Nat):List BL:=(Y0 o now j).filter (Gs now)
noncomputable def YM (L:List BR) (o:Nat->List BL) (now:Int) (j:Nat):List CS:=(O3 o now j).flatMap fun x=>P8 L j (Ad (now+1)) x.Bytes
noncomputable def Ip (n:Nat) (L:List BR) (o:Nat->List BL) (now:Int):List CS:=(List.range n).flatMap (YM L o now)
theorem Zm {n:Nat} {L:List BR} (h:LM n L) (i due:Int) (bs:List Int):(P8 L i due bs).length<=n:=by
 unfold P8;rw[List.length_map];exact YC h i
theorem Zpq (B now:Int):(H6 B now).length<=1:=by unfold H6;cases (Int.tmod (Ad (now - Ad B)) 100==0)<;>simp
theorem ZlG (B now:Int):∀x∈H6 B now,x.Bytes.length<=1000:=fun x z=>by
 unfold H6 at z;cases e:(Int.tmod (Ad (now - Ad B)) 100==0)<;>rw[e]at z
 ·cases z
 ·rw[List.mem_singleton.1 z];show F6.length<=1000;rw[Rl];decide
theorem Zc {h:Nat->Bool} {o:Nat->List BL} (k:OK h o) (now:Int) (j:Nat):(O3 o now j).length<=21/\∀x∈O3 o now j,x.Bytes.length<=1000:=by
 refine⟨Nat.le_trans (List.length_filter_le _ _) ?_,fun x hx=>?_⟩
 ·unfold Y0;rw[List.length_append];have:=k.l1 j;have:=Zpq ((j:Int)+50) now;omega
 ·rcases List.mem_append.1 (List.mem_filter.1 hx).1 with hx|hx
  ·exact k.sm j x hx
  ·exact ZlG _ _ x hx
theorem ZrQ {p:Pr} (D:FU p) (i:Nat) (hi:i<p.n) (h:Nat->Bool) (o:Nat->List BL) (S:List BL) (hS:S.length<=100) (hb:∀x∈S,x.Bytes.length<=1000) (nt:List EE) (now:Int):∀d k:Nat,k+d=S.length->∀(cnt:Int) (fl:List CS),fl.length<=10000+8*k ->
  ∃z,AY Oc (.b2 i p.n i S S.length k (I5 p h o fl nt cnt now))=AY Oc (.b1 p.n ((i+1:Nat):Int) (I5 p h o (fl++(S.drop k).flatMap fun x=>P8 p.L i (Ad (now+1)) x.Bytes) nt z now)):=by
 have Q:=D.n8;intro d;induction d with
 | zero=>
  intro k M cnt fl _;obtain rfl:k=S.length:=by omega
  refine⟨cnt,(AQ _ _).trans ?_⟩;rw[List.drop_length,List.flatMap_nil,List.append_nil];simp only[Oc,IG,DN,cond_false,cond_true,Bool.and_self,Gi i (by omega)]
 | succ d Y=>
  intro k M cnt fl I;have C:k<S.length:=by omega
  have R:=hb S[k] (List.getElem_mem C);have G:=Zm2 p.n (by omega) i S[k].Bytes R (I5 p h o fl nt cnt now) D.L rfl (show fl.length<=100000 by omega);have J:=Zm D.L i (Ad (now+1)) S[k].Bytes;obtain⟨z,e⟩:=Y (k+1) (by omega) (Ad (cnt+1)) (fl++P8 p.L i (Ad (now+1)) S[k].Bytes) (by rw[List.length_append];omega);refine⟨z,(AQ _ _).trans ?_⟩;rw[List.drop_eq_getElem_cons C,List.flatMap_cons,<- List.append_assoc];simp only[Oc,Gt k _ C,KX k _ C,List.getElem?_eq_getElem C,Int.toNat_natCast,G,Gi k (by omega),DN,Option.bind_some,cond_true,Bool.and_self];exact e
noncomputable def I7 (o:Nat->List BL) (now:Int) (i:Nat):Nat->List BL:=fun j=>bif decide (j<i) then P6 o now j else o j
theorem ZoB {p:Pr} (Q:FU p) (h:Nat->Bool) (o:Nat->List BL) (k:OK h o) (nt:List EE) (now:Int):∀d i:Nat,i+d=p.n->∀cnt:Int,
  ∃D,AY Oc (.b1 p.n i (I5 p h (I7 o now i) (Ip i p.L o now) nt cnt now))=some ⟨I5 p h (P6 o now) (Ip p.n p.L o now) nt D now⟩:=by
 have S:=Q.n8;intro d;induction d with
 | zero=>
  intro i hi cnt;obtain rfl:i=p.n:=by omega
  refine⟨cnt,(AQ _ _).trans ?_⟩;have e:EZ p h (I7 o now p.n)=EZ p h (P6 o now):=by
   unfold EZ;refine List.map_congr_left fun j hj=>?_;have:=List.mem_range.1 hj;unfold nd I7;rw[decide_eq_true this];rfl
  simp only[Oc,IG,DN,cond_false,cond_true,Bool.and_self];show some (⟨(⟨EZ p h (I7 o now p.n),p.L,[],cnt,now,Ip p.n p.L o now,nt⟩:Aq)⟩:Og)=_;rw[e]
 | succ d ih=>
  intro i hi cnt;have z:i<p.n:=by omega
  have I:=VL p h (I7 o now i);have G:=jY p h (I7 o now i) i z;have Y:I7 o now i i=o i:=by unfold I7;rw[decide_eq_false (Nat.lt_irrefl i)];rfl
  have J : I7 o now (i+1) i=P6 o now i:=by unfold I7;rw[decide_eq_true (Nat.lt_succ_self i)];rfl
  have M:=Z0g p h (I7 o now i) i h (I7 o now (i+1)) (fun _ _=>rfl) (fun j hj=>by
   unfold I7
   by_cases z:j<i
   ·rw[decide_eq_true z,decide_eq_true (by omega)]
   ·rw[decide_eq_false z,decide_eq_false (by omega)])
  have C:fU (nd p h (I7 o now i) i) now=some (nd p h (I7 o now (i+1)) i,O3 o now i,[]):=by
   have:=Ztp ((i:Int)+50) (p.r i) (p.f i) (Ls p (h i)) (Ls p (h i)) (o i) (k.out i) (jR _ _) (jR _ _) (p.sq i) (p.st i) now (Q.sq i);unfold nd;rw[Y,J];exact this
  have hss:=Zc k now i;have R:(Ip i p.L o now).length<=10000+8*0:=by
   have h1:∀j∈List.range i,(YM p.L o now j).length<=8*21:=fun j _=>by
    have:=Zc k now j;refine Nat.le_trans (jA _ 8 _ fun x _=>Nat.le_trans (Zm Q.L _ _ _) S) (by omega)
   have:=jA _ _ _ h1;rw[List.length_range]at this;unfold Ip;omega
  obtain⟨c1,e1⟩:=ZrQ Q i z h (I7 o now (i+1)) (O3 o now i) (by omega) hss.2 nt now (O3 o now i).length 0 (by omega) cnt (Ip i p.L o now) R;have e2:Ip i p.L o now++((O3 o now i).drop 0).flatMap (fun x=>P8 p.L i (Ad (now+1)) x.Bytes)=Ip (i+1) p.L o now:=by
   unfold Ip;rw[List.range_succ,List.flatMap_append,List.drop_zero];simp[YM]
  rw[e2]at e1;obtain⟨c2,e3⟩:=ih (i+1) (by omega) c1;refine⟨c2,(AQ _ _).trans ?_⟩;simp only[Oc,Gt i _ z,I,KX i _ z,G,Int.toNat_natCast,C,M,List.length_set,Z0c,Nat.zero_le,decide_true,beq_self_eq_true,DN,Option.bind_some,cond_true,Bool.and_self];exact e1.trans e3
theorem Zb2 {p:Pr} (J:FU p) {A8 now:Int} (S:2<=A8/\A8<=127) (I:0<=now/\now<=900) (cnt:Int) (fl:List CS) (D:fl.length<=100000) (Q:∀x∈fl,nO p A8 (now+1) x) (h o nt) (k:OK h o) (G:nt.length<=300000) :
  ∃h' o1 nt' z,MJ (I5 p h o fl nt cnt now)=some ⟨I5 p h' (P6 o1 (now+1)) (Ip p.n p.L o1 (now+1)) nt' z (now+1)⟩/\Jy p A8 (now+1) fl h o nt h' o1 nt' /\ OK h' o1:=by
 obtain⟨h',o1,nt',q1,q2,q3⟩:=ZoJ J S (now:=now+1) ⟨by omega,by omega⟩ cnt fl D Q h o nt k G;obtain⟨z,e⟩:=ZoB J h' o1 q3 nt' (now+1) p.n 0 (by omega) cnt;refine⟨h',o1,nt',z,(AQ _ _).trans ?_,q2,q3⟩;have Y:Ad (now+1)=now+1:=Ez (by omega) (by omega);have R:I7 o1 (now+1) 0=o1:=by
  funext j;unfold I7;rw[decide_eq_false (Nat.not_lt_zero j)];rfl
 have M:Ip 0 p.L o1 (now+1)=[]:=rfl;rw[R,M]at e;have C:=VL p h' o1;simp only[Oc,Y,q1,C,DN,Option.bind_some,cond_true];exact e
noncomputable def oq (p:Pr) (q:Nat->Bool) (d A8:Int) (j:Nat):List BL:=bif q j then [⟨d,IX p A8,0⟩] else []
theorem mG {p:Pr} (D:FU p) (h q:Nat->Bool) (d A8:Int):OK h (oq p q d A8):=by
 have C:∀j,(oq p q d A8 j).length<=1:=fun j=>by unfold oq;cases q j<;>simp
 refine⟨fun j=>Nat.le_trans (C j) (by decide),fun j _=>Nat.le_trans (C j) (by decide),fun j x z=>?_⟩;unfold oq at z;cases e:q j<;>rw[e]at z
 ·cases z
 ·rw[List.mem_singleton.1 z];show (mE _ _ _).length<=1000;rw[YL];have:=D.b1;omega
theorem ZM (B now:Int):∀x∈H6 B now,x.Em=now/\x.Bytes=F6:=fun x z=>by
 unfold H6 at z;cases e:(Int.tmod (Ad (now - Ad B)) 100==0)<;>rw[e]at z
 ·cases z
 ·rw[List.mem_singleton.1 z];exact⟨rfl,rfl⟩
theorem Z7X (B now:Int):(H6 B now).filter (fun x=>!Gs now x)=[]:=List.filter_eq_nil_iff.2 fun x z=>by
 have:=(ZM B now x z).1;simp[Gs,this]
theorem Z7Q {p:Pr} (q:Nat->Bool) (d A8 now:Int) (h:now<d):P6 (oq p q d A8) now=oq p q d A8:=by
 funext j;unfold P6 Y0;rw[List.filter_append,Z7X,List.append_nil,List.filter_eq_self];intro x z;unfold oq at z;cases e:q j<;>rw[e]at z
 ·cases z
 ·rw[List.mem_singleton.1 z];show (!decide (d<=now))=true;rw[decide_eq_false (by omega)];rfl
theorem Zp1 {p:Pr} (q:Nat->Bool) (d A8 now:Int) (h:d<=now) (C ttl' : Int):P6 (oq p q d A8) now=oq p (fun _=>false) C ttl' :=by
 funext j;unfold P6 Y0;rw[List.filter_append,Z7X,List.append_nil];show _=[];rw[List.filter_eq_nil_iff];intro x z;unfold oq at z;cases e:q j<;>rw[e]at z
 ·cases z
 ·rw[List.mem_singleton.1 z];show ¬(!decide (d<=now))=true;rw[decide_eq_true h];simp
structure TL (p:Pr) (T:Nat->Prop) (A8 now:Int) (fl:List CS):Prop where
 hop:∀x∈fl,nO p A8 (now+1) x
 src:∀x∈fl,x.Bytes=IX p A8->∃i,i<p.n/\T i/\x.To∈Ey p.L i
 all:∀i,i<p.n->T i->∀j∈Ey p.L i,∃x∈fl,x.To=j/\x.Bytes=IX p A8
 len:fl.length<=2000
theorem Z9B {p:Pr} (C:FU p) {h:Nat->Bool} {o:Nat->List BL} (k:OK h o) (now:Int):(Ip p.n p.L o now).length<=2000:=by
 have z:=C.n8;have D:∀j∈List.range p.n,(YM p.L o now j).length<=8*21:=fun j _=>by
  have:=Zc k now j;refine Nat.le_trans (jA _ 8 _ fun x _=>Nat.le_trans (Zm C.L _ _ _) z) (by omega)
 have:=jA _ _ _ D;rw[List.length_range]at this;unfold Ip;omega
theorem Xx {p:Pr} {o:Nat->List BL} {now:Int} (D:0<=now/\now<=1000) {x:CS}:x∈Ip p.n p.L o now↔∃i,i<p.n/\∃y∈O3 o now i,∃j∈Ey p.L i,x=⟨i,j,now+1,y.Bytes⟩:=by
 have G:Ad (now+1)=now+1:=Ez (by omega) (by omega);unfold Ip YM P8;rw[G];simp only[List.mem_flatMap,List.mem_map,List.mem_range];constructor
 ·rintro ⟨i,hi,y,C,j,z,rfl⟩
  exact⟨i,hi,y,C,j,z,rfl⟩
 ·rintro ⟨i,hi,y,C,j,z,rfl⟩
  exact⟨i,hi,y,C,j,z,rfl⟩
theorem Z0O {p:Pr} (z:FU p) {i j:Int} (h:j∈Ey p.L i):∃k:Nat,k<p.n/\j=k:=by
 have:=nG z.L i j h;exact⟨j.toNat,by omega,by omega⟩
theorem Zq3 {p:Pr} (D:FU p) (q:Nat->Bool) (d A8 now:Int) (h:d<=now) (z:0<=now/\now<=1000):TL p (fun i=>q i=true) A8 now (Ip p.n p.L (oq p q d A8) now):=by
 have I:∀i,∀y∈O3 (oq p q d A8) now i,y.Bytes=F6\/(q i=true/\y.Bytes=IX p A8):=fun i y hy=>by
  rcases List.mem_append.1 (List.mem_filter.1 hy).1 with hy|hy
  ·unfold oq at hy;cases e:q i<;>rw[e]at hy
   ·cases hy
   ·rw[List.mem_singleton.1 hy];exact .inr ⟨rfl,rfl⟩
  ·exact .inl (ZM _ _ y hy).2
 refine⟨fun x G=>?_,fun x G hb=>?_,fun i hi J j C=>?_,Z9B D (mG D q q d A8) now⟩
 ·obtain⟨i,hi,y,hy,j,C,rfl⟩:=(Xx z).1 G;exact⟨rfl,Z0O D C,(I i y hy).imp id fun q=>q.2⟩
 ·obtain⟨i,hi,y,hy,j,C,rfl⟩:=(Xx z).1 G;rcases I i y hy with e|e
  ·exact absurd (e.symm.trans hb) (Z10 p A8)
  ·exact⟨i,hi,e.1,C⟩
 ·refine⟨⟨i,j,now+1,IX p A8⟩,(Xx z).2 ⟨i,hi,⟨d,IX p A8,0⟩,?_,j,C,rfl⟩,rfl,rfl⟩;refine List.mem_filter.2 ⟨List.mem_append_left _ ?_,?_⟩
  ·unfold oq;rw[J];exact List.mem_singleton.2 rfl
  ·exact decide_eq_true h
theorem Z9c {p:Pr} (C:FU p) (q:Nat->Bool) (d A8 now:Int) (h:now<d) (z:0<=now/\now<=1000) (ttl' : Int):TL p (fun _=>False) ttl' now (Ip p.n p.L (oq p q d A8) now):=by
 have J:∀i,∀y∈O3 (oq p q d A8) now i,y.Bytes=F6:=fun i y hy=>by
  obtain⟨hy,G⟩:=List.mem_filter.1 hy;rcases List.mem_append.1 hy with hy|hy
  ·unfold oq at hy;cases e:q i<;>rw[e]at hy
   ·cases hy
   ·rw[List.mem_singleton.1 hy]at G;have:d<=now:=of_decide_eq_true G;omega
  ·exact(ZM _ _ y hy).2
 refine⟨fun x D=>?_,fun x D hb=>?_,fun i hi M=>M.elim,Z9B C (mG C q q d A8) now⟩
 ·obtain⟨i,hi,y,hy,j,I,rfl⟩:=(Xx z).1 D;exact⟨rfl,Z0O C I,.inl (J i y hy)⟩
 ·obtain⟨i,hi,y,hy,j,I,rfl⟩:=(Xx z).1 D;exact absurd ((J i y hy).symm.trans hb) (Z10 p ttl')
theorem TL.hits {p:Pr} {T:Nat->Prop} {A8 now:Int} {fl:List CS} (h:TL p T A8 now fl) (j:Nat):hits p A8 fl j↔∃i,i<p.n/\T i/\(j:Int)∈Ey p.L i:=by
 constructor
 ·rintro ⟨x,I,z,C⟩
  obtain⟨i,hi,D,G⟩:=h.src x I C;exact⟨i,hi,D,z▸G⟩
 ·rintro ⟨i,hi,D,G⟩
  obtain⟨x,I,z,C⟩:=h.all i hi D _ G;exact⟨x,I,z,C⟩
structure Px (p:Pr) (h:Nat->Bool) (now:Int) (nt:List EE):Prop where
 cnt:∀j:Nat,(nt.filter fun x=>x.Node==(j:Int)).length=bif h j then 1 else 0
 ev:∀x∈nt,∃A8,x.Event=KU (aV p) A8 p.b
 len:(nt.length:Int)<=2000*now
structure St (p:Pr) (h q:Nat->Bool) (d A8:Int) (T:Nat->Prop) (ttl' now:Int) (m:Aq):Prop where
 ex:∃fl nt cnt,m=I5 p h (oq p q d A8) fl nt cnt now/\TL p T ttl' now fl/\Px p h now nt
theorem Px.next {p:Pr} {A8 now:Int} {fl:List CS} {h o nt h' o' nt'} (A:Jy p A8 (now+1) fl h o nt h' o' nt') (z:Px p h now nt) (D:fl.length<=2000):Px p h' (now+1) nt' :=by
 refine⟨fun j=>?_,fun x hx=>?_,by have:=A.nl;have:=z.len;omega⟩
 ·rw[A.nn j,z.cnt j];have:=A.hh j;cases e:h j<;>cases C : h' j<;>simp_all
 ·rcases A.ne x hx with hx|hx
  ·exact z.ev x hx
  ·exact⟨_,hx⟩
theorem VQ {p:Pr} (J:FU p) {h q:Nat->Bool} {d A8 ttl' now:Int} {m:Aq} (I:0<=now/\now<=100) (ht:2<=ttl' /\ ttl' <= 127) (S:St p h q d A8 (fun _=>False) ttl' now m) :
  ∃Y,MJ m=some ⟨Y⟩/\(d<=now+1->∀M z,St p h (fun _=>false) M z (fun i=>q i=true) A8 (now+1) Y)/\(now+1<d->∀z,St p h q d A8 (fun _=>False) z (now+1) Y):=by
 obtain⟨fl,nt,cnt,rfl,Q,R⟩:=S.ex;have G:=Q.len;obtain⟨h',o1,nt',C,e,A,k⟩:=Zb2 J ht (now:=now) ⟨I.1,by omega⟩ cnt fl (by omega) Q.hop h _ nt (mG J h q d A8) (by have:=R.len;omega);have hh:h' = h:=by
  funext j;have:=A.hh j;rw[Q.hits]at this;cases e:h j<;>cases e' : h' j<;>simp_all
 subst hh;have ho:o1=oq p q d A8:=by
  funext j;rw[A.oo j];cases h' j<;>rfl
 subst ho;refine⟨_,e,fun D M z=>⟨⟨_,nt',C,?_,Zq3 J q d A8 (now+1) D ⟨by omega,by omega⟩,Px.next A R G⟩⟩,fun D z=>⟨⟨_,nt',C,?_,Z9c J q d A8 (now+1) D ⟨by omega,by omega⟩ z,Px.next A R G⟩⟩⟩
 ·rw[Zp1 q d A8 (now+1) D M z]
 ·rw[Z7Q q d A8 (now+1) D]
theorem ZtN {p:Pr} (J:FU p) {h:Nat->Bool} {d A8 ttl' now:Int} {T:Nat->Prop} {m:Aq} (D:0<=now/\now<=100) (ht:2<=ttl' /\ ttl' <= 127) (S:St p h (fun _=>false) d A8 T ttl' now m) :
  ∃h' m',MJ m=some ⟨m'⟩/\(∀j,h' j=true↔h j=true\/(j≠p.s/\∃i,i<p.n/\T i/\(j:Int)∈Ey p.L i))/\∀z,St p h' (fun j=>h' j && !h j&&p.r j) (now+3) (ttl' - 1) (fun _=>False) z (now+1) m' :=by
 obtain⟨fl,nt,cnt,rfl,G,M⟩:=S.ex;have I:=G.len;obtain⟨h',o1,nt',C,e,A,k⟩:=Zb2 J ht (now:=now) ⟨D.1,by omega⟩ cnt fl (by omega) G.hop h _ nt (mG J h (fun _=>false) d A8) (by have:=M.len;omega);have ho:o1=oq p (fun j=>h' j && !h j&&p.r j) (now+3) (ttl' - 1):=by
  funext j;rw[A.oo j];unfold oq Ir IX;rw[show now+1+2=now+3 by omega];cases Q:h' j<;>cases R:h j<;>cases Y:p.r j<;>simp[Q,R,Y]
 subst ho;refine⟨h',_,e,fun j=>by rw[A.hh j,G.hits],fun z=>⟨⟨_,nt',C,?_,Z9c J (fun j=>h' j && !h j&&p.r j) (now+3) (ttl' - 1) (now+1) (by omega) ⟨by omega,by omega⟩ z,Px.next A M I⟩⟩⟩;rw[Z7Q _ (now+3) (ttl' - 1) (now+1) (by omega)]
def Md:Nat->Int->Aq->Aq->Prop
 | 0,a,m,z =>z = m/\m.Now=a
 | k+1,a,m,z =>∃C,m.Now=a/\MJ m=some ⟨C⟩/\Md k (a+1) C z
theorem St.now {p h q d A8 T ttl' now m} (S:St p h q d A8 T ttl' now m):m.Now=now:=by
 obtain⟨fl,nt,cnt,rfl,_⟩:=S.ex;rfl
theorem Md.snoc:∀{k:Nat} {a:Int} {m C z:Aq},Md k a m C->MJ C=some ⟨z⟩->z.Now=a+(k+1:Nat)->Md (k+1) a m z
 | 0,a,m,C,z,⟨h,h'⟩,e,D=>by subst h;exact⟨z,h',e,rfl,by rw[D];simp⟩
 | k+1,a,m,C,z,⟨x,G,I,J⟩,e,D=>⟨x,G,I,Md.snoc J e (by rw[D];omega)⟩
def NF (h:Nat->Bool):Nat->Nat
 | 0=>0
 | n+1=>NF h n+(bif h n then 1 else 0)
theorem Z9F {h h' : Nat->Bool} (hh:∀i,h i=true->h' i=true):∀n,NF h n<=NF h' n
 | 0=>Nat.le_refl _
 | n+1=>by
  have:=Z9F hh n;have:=hh n;unfold NF;cases e:h n<;>cases z : h' n<;>simp_all<;>omega
theorem Z0e {h h' : Nat->Bool} (hh:∀i,h i=true->h' i=true):∀n j,j<n->h j=false->h' j=true->NF h n+1<=NF h' n
 | 0,j,D,_,_=>absurd D (Nat.not_lt_zero j)
 | n+1,j,D,z,C=>by
  have J:=Z9F hh n;have M:=hh n;unfold NF
  by_cases G:j=n
  ·subst G;rw[z,C];simp only[cond_false,cond_true];omega
  ·have:=Z0e hh n j (by omega) z C;cases e:h n<;>cases I : h' n<;>simp_all<;>omega
theorem Z9b:∀n,NF (fun _=>true) n=n
 | 0=>rfl
 | n+1=>by rw[NF,Z9b n];rfl
inductive NQ (p:Pr):Nat->Prop
 | base:NQ p p.s
 | step (i j:Nat):NQ p i->i<p.n->(i=p.s\/p.r i=true)->(j:Int)∈Ey p.L i->NQ p j
structure Lg (p:Pr) (h:Nat->Bool) (T:Nat->Prop) (k:Nat):Prop where
 s0:h p.s=false
 bnd:∀j,h j=true->j<p.n
 snd:∀j,h j=true->NQ p j
 may:∀i,T i->i=p.s\/(h i=true/\p.r i=true)
 cls:∀i,i<p.n->(i=p.s\/(h i=true/\p.r i=true))->T i\/∀j:Nat,(j:Int)∈Ey p.L i->j=p.s\/h j=true
 cnt:∀i,i<p.n->T i->k<=NF h p.n
theorem Lg.small {p:Pr} (z:FU p) {h T k} (L:Lg p h T k):NF h p.n<=7:=by
 have:=Z0e (h:=h) (h' :=fun _=>true) (fun _ _=>rfl) p.n p.s z.sn L.s0 rfl;rw[Z9b]at this;have:=z.n8;omega
theorem Lg.next {p:Pr} (Q:FU p) {h h' : Nat->Bool} {T:Nat->Prop} {k:Nat} (L:Lg p h T k) (hh:∀j,h' j=true↔h j=true\/(j≠p.s/\∃i,i<p.n/\T i/\(j:Int)∈Ey p.L i)):Lg p h' (fun j=>(h' j && !h j&&p.r j)=true) (k+1):=by
 have mono:∀j,h j=true->h' j=true:=fun j e=>(hh j).2 (.inl e);refine⟨?_,fun j e=>?_,fun j e=>?_,fun i e=>?_,fun i hi e=>?_,fun i hi e=>?_⟩
 ·have:=hh p.s;have:=L.s0;cases e:h' p.s<;>simp_all
 ·rcases (hh j).1 e with e|⟨_,i,hi,_,z⟩
  ·exact L.bnd j e
  ·have:=nG Q.L _ _ z;omega
 ·rcases (hh j).1 e with e|⟨_,i,hi,C,z⟩
  ·exact L.snd j e
  ·rcases L.may i C with rfl|⟨q1,q2⟩
   ·exact .step _ j .base hi (.inl rfl) z
   ·exact .step i j (L.snd i q1) hi (.inr q2) z
 ·simp only[Bool.and_eq_true,Bool.not_eq_true']at e;exact .inr ⟨e.1.1,e.2⟩
 ·have key:∀i,i<p.n->T i->∀j:Nat,(j:Int)∈Ey p.L i->j=p.s\/h' j=true:=fun i hi C j z=>by
   by_cases M:j=p.s
   ·exact .inl M
   ·exact .inr ((hh j).2 (.inr ⟨M,i,hi,C,z⟩))
  have old:i=p.s\/(h i=true/\p.r i=true)->∀j:Nat,(j:Int)∈Ey p.L i->j=p.s\/h' j=true:=fun q=>by
   rcases L.cls i hi q with C|hc
   ·exact key i hi C
   ·exact fun j z=>(hc j z).imp id (mono j)
  rcases e with e|⟨G,D⟩
  ·exact .inr (old (.inl e))
  ·cases I:h i with
   | true=>exact .inr (old (.inr ⟨I,D⟩))
   | false=>exact .inl (by simp[G,D])
 ·simp only[Bool.and_eq_true,Bool.not_eq_true']at e;obtain⟨⟨G,D⟩,I⟩:=e;rcases (hh i).1 G with J|⟨_,R,hi',C,_⟩
  ·rw[D]at J;cases J
  ·have S:=L.cnt R hi' C;have:=Z0e mono p.n i hi D G;omega
theorem Zav {p:Pr} (hp:FU p) (k:Nat) (hk:k<=15) {h:Nat->Bool} {T:Nat->Prop} {m:Aq} {d A8:Int} (S:St p h (fun _=>false) d A8 T (127 - k) (4+3*k) m) (L:Lg p h T k) :
  ∃h' M I J m3,MJ m=some ⟨I⟩/\MJ I=some ⟨J⟩/\MJ J=some ⟨m3⟩/\Lg p h' M (k+1)/\(∃d A8 q z,St p h' q d A8 (fun _=>False) z (5+3*k) I)/\(∃d A8 q z,St p h' q d A8 (fun _=>False) z (6+3*k) J)/\St p h' (fun _=>false) 0 0 M (127 - (k+1:Nat)) (4+3*(k+1:Nat)) m3:=by
 obtain⟨h',I,Y,hh,S1⟩:=ZtN hp ⟨by omega,by omega⟩ ⟨by omega,by omega⟩ S;have C :=S1 5;obtain⟨J,e2,_,Q⟩:=VQ hp ⟨by omega,by omega⟩ ⟨by decide,by decide⟩ C;have D :=Q (by omega) 5;obtain⟨m3,e3,R,_⟩:=VQ hp ⟨by omega,by omega⟩ ⟨by decide,by decide⟩ D;have G :=R (by omega) 0 0;rw[show (4:Int)+3*k+1+1+1=4+3*((k+1:Nat):Int) by omega,show (127:Int) - k - 1=127 - ((k+1:Nat):Int) by omega]at G;rw[show (4:Int)+3*k+1+1=6+3*k by omega]at D;rw[show (4:Int)+3*k+1=5+3*k by omega]at C;exact⟨h',_,I,J,m3,Y,e2,e3,L.next hp hh,⟨_,_,_,_,C⟩,⟨_,_,_,_,D⟩,G⟩
theorem rounds {p:Pr} (R:FU p) {h:Nat->Bool} {T:Nat->Prop} {m:Aq} {d A8:Int} (S:St p h (fun _=>false) d A8 T 127 4 m) (L:Lg p h T 0):∀k:Nat,k<=15 ->
  ∃h' z m',Md (3*k) 4 m m' /\ Lg p h' z k/\∃d A8,St p h' (fun _=>false) d A8 z (127 - k) (4+3*k) m' :=by
 intro k;induction k with
 | zero=>intro _;exact⟨h,T,m,⟨rfl,S.now⟩,L,d,A8,by simpa using S⟩
 | succ k Y=>
  intro hk;obtain⟨h',z,m',q1,q2,d,A8,q3⟩:=Y (by omega);obtain⟨Q,G,m1,m2,m3,I,J,M,D,⟨_,_,_,_,s1⟩,⟨_,_,_,_,s2⟩,C⟩:=Zav R k (by omega) q3 q2;refine⟨Q,G,m3,?_,D,_,_,C⟩;have t1:=q1.snoc I (by rw[s1.now];omega);have t2:=t1.snoc J (by rw[s2.now];omega);exact t2.snoc M (by rw[C.now];omega)
theorem Zmo {p:Pr} (M:FU p) {h:Nat->Bool} {T:Nat->Prop} {m:Aq} {d A8:Int} (S:St p h (fun _=>false) d A8 T 127 4 m) (L:Lg p h T 0) :
  ∃h' R,Md 47 4 m R /\ (∃d A8 q z,St p h' q d A8 (fun _=>False) z 51 R)/\∀j,h' j=true↔j<p.n/\j≠p.s/\NQ p j:=by
 obtain⟨h1,T1,m1,q1,L1,d1,Y,s1⟩:=rounds M S L 15 (Nat.le_refl _);obtain⟨J,T2,a1,a2,a3,e1,e2,_,C,⟨_,_,_,_,x1⟩,G,_⟩:=Zav M 15 (Nat.le_refl _) s1 L1;have t1:=q1.snoc e1 (by rw[x1.now];omega);have I :=G;obtain⟨_,_,_,_,x2⟩:=I;have t2:=t1.snoc e2 (by rw[x2.now];omega);refine⟨J,a2,t2,?_,fun j=>⟨fun e=>⟨C.bnd j e,fun e' =>?_,C.snd j e⟩,?_⟩⟩
 ·obtain⟨d,A8,q,z,x2⟩:=G;exact⟨d,A8,q,z,x2⟩
 ·rw[e',C.s0]at e;cases e
 ·have key:∀j,NQ p j->j=p.s\/J j=true:=fun j Q=>by
   induction Q with
   | base=>exact .inl rfl
   | step i j _ hi D hj ih=>
    have hm:i=p.s\/(J i=true/\p.r i=true):=by
     rcases D with e|e
     ·exact .inl e
     ·exact ih.imp id fun q=>⟨q,e⟩
    rcases C.cls i hi hm with hT|hc
    ·have:=C.cnt i hi hT;have:=C.small M;omega
    ·exact hc j hj
  rintro ⟨_,hs,Q⟩
  exact(key j Q).resolve_left hs
theorem ZiZ (k:Int) (C:Fa k):xK k=some (Bv k):=(AQ _ _).trans (by
 have h:=zO k (⟨#[110,105,100]⟩:ByteArray) [];have D:=h.1;simp only[Z60,DN];rw[eP k C _ _ (by decide) (fun x z=>by cases z) (by simp),eP k C _ _ (by decide) (fun x z=>by cases z) (by simp),eP k C _ _ (by decide) (fun x z=>by cases z) (by simp),eP k C _ _ (by decide) (fun x z=>by cases z) (by simp)];simp only[Option.bind_some,Int.tmod_eq_emod_of_nonneg D];rw[Ez (by omega) (by omega)];rfl)
@[reducible] noncomputable def Dt (a:Int) (r f:Bool):Ae:=nv a r f [] [] [] 0 0
theorem Zp2 (a:Int) (r f:Bool) (z:0<a) (C:a<32768):ZG a 1 2 3 r f=some (Dt a r f,0):=(AQ _ _).trans (by
 have D:XT a=some true:=(AQ _ _).trans (by simp only[zX,DN,SL,SM,decide_eq_true z,decide_eq_true C,cond_true]);simp only[Z80,DN,SL,SM,D,Option.bind_some,Bool.not_true,cond_false,ZiZ 3 ⟨by decide,by decide⟩])
theorem b00:decide ((0:Int)<((0:Nat):Int))=false:=rfl
theorem Zv:Wn [] []=some true:=by
 have b1:AY dB (.b1 [] [] 0)=some true:=(AQ _ _).trans (by simp only[dB,DN,SL,SM,List.length_nil,b00,cond_false]);exact(AQ _ _).trans (by simp only[dB,DN,SL,SM,List.length_nil,bne_self_eq_false,cond_false,b1])
theorem ZoO:vC [] []=some true:=by
 have b1:AY dK (.b1 [] [] 0)=some true:=(AQ _ _).trans (by simp only[dK,DN,SL,SM,List.length_nil,b00,cond_false]);exact(AQ _ _).trans (by simp only[dK,DN,SL,SM,List.length_nil,bne_self_eq_false,cond_false,b1])
theorem Zp9:sH ⟨[],[]⟩ ⟨[],[]⟩=some true:=by
 have b4:AY QE (.b3 0 ⟨[],[]⟩ ⟨[],[]⟩)=some true:=(AQ _ _).trans (by simp only[QE,DN,SL,SM,List.length_nil,b00,cond_false]);have b2:AY QE (.b2 0 ⟨[],[]⟩ ⟨[],[]⟩)=some true:=(AQ _ _).trans (by simp only[QE,DN,SL,SM,List.length_nil,b00,cond_false,b4]);have b1:AY QE (.b1 ⟨[],[]⟩ ⟨[],[]⟩)=some true:=(AQ _ _).trans (by simp only[QE,DN,SL,SM,b2]);exact(AQ _ _).trans (by simp only[QE,DN,SL,SM,List.length_nil,bne_self_eq_false,cond_false,b1])
theorem Znv:uI Gu Gu=some true:=by
 have z:Gu.Aa=[]:=rfl;have C:Gu.AO=[]:=rfl;have b2:AY UZ (.b2 0 Gu Gu)=some true:=(AQ _ _).trans (by simp only[UZ,DN,SL,SM,z,List.length_nil,b00,cond_false]);have b1:AY UZ (.b1 Gu Gu)=some true:=(AQ _ _).trans (by simp only[UZ,DN,SL,SM,b2]);exact(AQ _ _).trans (by simp only[UZ,DN,SL,SM,z,C,List.length_nil,bne_self_eq_false,beq_self_eq_true,Bool.not_true,cond_false,Zv,Option.bind_some,b1])
theorem Zt1:wK En En=some true:=by
 have z:En.AO=[]:=rfl;exact(AQ _ _).trans (by simp only[Z5A,DN,SL,SM,z,beq_self_eq_true,cond_true,Zv,Option.bind_some])
theorem ZsJ (a:Int) (r f:Bool):gV (Dt a r f) (Dt a r f)=some true:=by
 have hc:(Dt a r f).Cache=[]:=rfl;have z:(Dt a r f).Ai=[]:=rfl;have b4:AY Nh (.b4 (Dt a r f) (Dt a r f))=some true:=(AQ _ _).trans (by
  simp only[Nh,DN,SL,SM,show (Dt a r f).Ah=[] from rfl,show (Dt a r f).A7=⟨[],[]⟩ from rfl,show (Dt a r f).AB=Gu from rfl,show (Dt a r f).Low=En from rfl,show (Dt a r f).Out=[] from rfl,
   Zv,Zp9,Znv,Zt1,ZoO,Option.bind_some,cond_true])
 have b3:AY Nh (.b3 0 (Dt a r f) (Dt a r f))=some true:=(AQ _ _).trans (by
  simp only[Nh,DN,SL,SM,z,List.length_nil,b00,bne_self_eq_false,beq_self_eq_true,Bool.and_self,Bool.not_true,cond_false,b4])
 have b2:AY Nh (.b2 0 (Dt a r f) (Dt a r f))=some true:=(AQ _ _).trans (by
  simp only[Nh,DN,SL,SM,hc,List.length_nil,b00,cond_false,b3])
 have b1:AY Nh (.b1 (Dt a r f) (Dt a r f))=some true:=(AQ _ _).trans (by simp only[Nh,DN,SL,SM,b2]);exact(AQ _ _).trans (by simp only[Nh,DN,SL,SM,hc,z,List.length_nil,bne_self_eq_false,cond_false,b1])
theorem KJ (n:Nat):((0*n<=lim)/\0<=maxLen):=⟨by rw[Nat.zero_mul];exact Nat.zero_le _,Nat.zero_le _⟩
theorem Zba (a:Int) (r f:Bool):Om (Dt a r f)=some (Dt a r f):=by
 have C:Lu []=some ⟨[]⟩:=if_pos (KJ _);have D:QC []=some ⟨[]⟩:=if_pos (KJ _);have G:O7 []=some ⟨[]⟩:=if_pos (KJ _);have I:TW []=some ⟨[]⟩:=if_pos (KJ _);have J:TY []=some ⟨[]⟩:=if_pos (KJ _);have M:Tt []=some ⟨[]⟩:=if_pos (KJ _);have Q:UC []=some ⟨[]⟩:=if_pos (KJ _);have b4:∀z,AY Nj (.b4 0 0 (Dt a r f) z)=some (Dt a r f):=fun z=>(AQ _ _).trans (by
  simp only[Nj,DN,SL,SM,show decide ((0:Int)<0)=false from rfl,cond_false])
 have b3:∀z,AY Nj (.b3 0 0 (Dt a r f) z)=some (Dt a r f):=fun z=>(AQ _ _).trans (by
  simp only[Nj,DN,SL,SM,show decide ((0:Int)<0)=false from rfl,cond_false,show (Dt a r f).Out=[] from rfl,Q,Option.bind_some,List.length_nil];exact b4 z)
 have b2:∀z,AY Nj (.b2 0 0 (Dt a r f) z)=some (Dt a r f):=fun z=>(AQ _ _).trans (by
  simp only[Nj,DN,SL,SM,show decide ((0:Int)<0)=false from rfl,cond_false,show (Dt a r f).AB.AO=[] from rfl,show (Dt a r f).AB.Aa=[] from rfl,show (Dt a r f).Low.AO=[] from rfl,C,M,Option.bind_some,List.length_nil];exact b3 z)
 have b1:∀z,AY Nj (.b1 0 0 (Dt a r f) z)=some (Dt a r f):=fun z=>(AQ _ _).trans (by
  simp only[Nj,DN,SL,SM,show decide ((0:Int)<0)=false from rfl,cond_false,show (Dt a r f).A7.In=[] from rfl,List.length_nil];exact b2 z)
 exact(AQ _ _).trans (by
  simp only[Nj,DN,SL,SM,show (Dt a r f).Ah=[] from rfl,show (Dt a r f).Cache=[] from rfl,show (Dt a r f).Ai=[] from rfl,show (Dt a r f).A7=⟨[],[]⟩ from rfl,C,D,G,I,J,Option.bind_some,List.length_nil];exact b1 _)
theorem QU {R:Type} (F:Int->Option R) (n:Nat) (r:Option R) (C:∀i:Nat,i<n->F i=F ((i+1:Nat):Int)) (z:F (n:Int)=r):F 0=r:=by
 have key:∀d i:Nat,i+d=n->F i=r:=by
  intro d;induction d with
  | zero=>intro i hi;rw[show i=n by omega];exact z
  | succ d D=>intro i hi;exact(C i (by omega)).trans (D (i+1) (by omega))
 exact key n 0 (Nat.zero_add n)
theorem kA1 (n k:Nat) (h:n<=1000000) (z:k<=1000):decide (n*k<=lim)=true:=decide_eq_true (Nat.le_trans (Nat.le_trans (Nat.mul_le_mul h z) (by decide)) YH)
theorem kA2 (n:Nat) (h:n<=1000000):decide (n<=maxLen)=true:=decide_eq_true (Nat.le_trans (Nat.le_trans h (by decide)) VD)
noncomputable def Qu (p:F7) (i:Nat):Ae:=Dt ((i:Int)+50) (p.Dq.getD i false) (decide (i<p.Iz.length)&&p.Iz.getD i false)
noncomputable def Ju (p:F7):List Ae:=(List.range p.Dq.length).map (Qu p)
theorem ZQ (p:F7):(Ju p).length=p.Dq.length:=by simp[Ju]
theorem ZpJ (p:F7) (M:p.Dq.length<=16):bP p=some (Ju p):=(AQ _ _).trans (by
 have key:∀d i:Nat,i+d=p.Dq.length->AY QF (.b1 ((List.range i).map (Qu p)) i p)=some (Ju p):=by
  intro d;induction d with
  | zero=>
   intro i hi;obtain rfl:i=p.Dq.length:=by omega
   exact(AQ _ _).trans (by simp only[QF,DN,IG,cond_false];rfl)
  | succ d J=>
   intro i hi;have hi' : i<p.Dq.length:=by omega
   have b2:∀f,f=(decide (i<p.Iz.length)&&p.Iz.getD i false)->AY QF (.b2 ((List.range i).map (Qu p)) i f p)=some (Ju p):=by
    intro f z;refine(AQ _ _).trans ?_;have I:IntKind.wrap .u16 (Ad ((i:Int)+50))=(i:Int)+50:=by rw[Ez (by omega) (by omega),Y4 (by omega) (by omega)]
    have G:((List.range i).map (Qu p)).length=i:=by simp
    have D:(List.range i).map (Qu p)++[Dt ((i:Int)+50) p.Dq[i] f]=(List.range (i+1)).map (Qu p):=by
     rw[List.range_succ,List.map_append,z];simp[Qu,hi']
    simp only[QF,DN,I4 i p.Dq hi',JK i p.Dq hi',cond_true,Option.bind_some,I,Zp2 ((i:Int)+50) p.Dq[i] f (by omega) (by omega),G,kA1 (i+1) 480 (by omega) (by omega),kA2 (i+1) (by omega),Bool.and_self,Gi i (by omega),D];exact J (i+1) (by omega)
   refine(AQ _ _).trans ?_
   by_cases z:i<p.Iz.length
   ·simp only[QF,DN,Gt i p.Dq.length hi',Gt i p.Iz.length z,I4 i p.Iz z,JK i p.Iz z,cond_true,Option.bind_some];exact b2 _ (by simp[z])
   ·have C:decide ((i:Int)<(p.Iz.length:Int))=false:=decide_eq_false (by omega);simp only[QF,DN,Gt i p.Dq.length hi',C,cond_true,cond_false];exact b2 _ (by simp[z])
 simp only[QF,DN,cond_true];exact key p.Dq.length 0 (by omega))
theorem Z0k {p:F7} {x:Ae} (h:x∈Ju p):∃a r f,x=Dt a r f:=by
 obtain⟨i,_,rfl⟩:=List.mem_map.1 h;exact⟨_,_,_,rfl⟩
theorem ZoQ (p:F7) (i:Nat) (h:i<(Ju p).length):(Ju p)[i].Address=(i:Int)+50:=by
 simp[Ju,Qu,Dt]
abbrev CP (N:List Ae) (L:List BR):Aq:=⟨N,L,[],0,0,[],[]⟩
theorem Z9L (N:List Ae) (L:List BR) (Y:N.length<=1000) (R:L.length*16<=lim) (C:L.length<=maxLen) (S:∀x∈N,Om x=some x):eU (CP N L)=some ⟨CP N L⟩:=(AQ _ _).trans (by
 have G:UE N=some ⟨N⟩:=if_pos ⟨of_decide_eq_true (kA1 _ _ (by omega) (by omega)),of_decide_eq_true (kA2 _ (by omega))⟩;have I:UG L=some ⟨L⟩:=if_pos ⟨R,C⟩;have J:UM []=some ⟨[]⟩:=if_pos (KJ _);have M:UQ []=some ⟨[]⟩:=if_pos (KJ _);have Q:TZ []=some ⟨[]⟩:=if_pos (KJ _);have D:decide ((0:Int)<0)=false:=rfl;have b3:∀z,AY Oh (.b3 0 0 (CP N L) z)=some ⟨CP N L⟩:=fun z=>(AQ _ _).trans (by
  simp only[Oh,DN,D,cond_false,cond_true,Bool.and_self])
 have b2:∀z,AY Oh (.b2 0 0 (CP N L) z)=some ⟨CP N L⟩:=fun z=>(AQ _ _).trans (by
  simp only[Oh,DN,D,cond_false,Q,Option.bind_some,Bool.and_self,cond_true,List.length_nil];exact b3 z)
 have b1:=fun z=>QU (fun i=>AY Oh (.b1 N.length i (CP N L) z)) N.length (some (⟨CP N L⟩:QP)) (fun i hi=>(AQ _ _).trans (by
   simp only[Oh,DN,Gt i N.length hi,I4 i N hi,List.getElem?_eq_getElem hi,cond_true,Option.bind_some,S _ (List.getElem_mem hi),List.length_set,beq_self_eq_true,Nat.zero_le,decide_true,Bool.and_self,Int.toNat_natCast,List.set_getElem_self,Gi i (by omega)]))
  ((AQ _ _).trans (by
   simp only[Oh,DN,IG,cond_false,I,J,M,Option.bind_some,Bool.and_self,cond_true,List.length_nil];exact b2 z))
 simp only[Oh,DN,G,Option.bind_some];exact b1 _)
theorem Ztu (x y:Ae):yG x y=some ⟨x.Address==y.Address,y⟩:=(AQ _ _).trans rfl
theorem ZqD (l:List Ae) (x:Ae) (C:l.length<=1000) (h:∀y∈l,y.Address≠x.Address):pM l x=some ⟨-1,x⟩:=(AQ _ _).trans (by
 have b1:=QU (fun i=>AY WM (.b1 l l.length i x)) l.length (some ⟨-1,x⟩) (fun i hi=>(AQ _ _).trans (by
   have z:(l[i].Address==x.Address)=false:=beq_eq_false_iff_ne.2 (h _ (List.getElem_mem hi));simp only[WM,DN,Gt i l.length hi,I4 i l hi,JK i l hi,cond_true,Option.bind_some,Ztu,z,cond_false,Gi i (by omega)]))
  ((AQ _ _).trans (by simp only[WM,DN,IG,cond_false]))
 simp only[WM,DN];exact b1)
theorem Zlk (l:List Ae) (x:Ae) (z:l.length<=1000) (h:∀y∈l,y.Address≠x.Address):Ym l x=some ⟨false,x⟩:=(AQ _ _).trans (by
 simp only[Z2e,DN,ZqD l x z h,Option.bind_some];rfl)
structure SS (N:List Ae):Prop where
 len:N.length<=16
 addr:∀(i:Nat) (h:i<N.length),N[i].Address=(i:Int)+50
 own:∀x∈N,Om x=some x
theorem SS.lt {N:List Ae} (h:SS N) (i:Nat) (hi:i<N.length):0<N[i].Address/\N[i].Address<=32767:=by
 have:=h.addr i hi;have:=h.len;omega
theorem ZqN (a:Int) (z:0<a) (C:a<=32767):MI a=some true:=(AQ _ _).trans (by
 simp only[wP,DN,decide_eq_true (show a>0 from z),decide_eq_true C,cond_true])
theorem ZpT (a:Int) (z:0<a) (C:a<=32767):XT a=some true:=(AQ _ _).trans (by
 simp only[zX,DN,decide_eq_true z,decide_eq_true (show a<32768 by omega),cond_true])
theorem Zss {N:List Ae} (h:SS N) (L:List BR) (z:Aq):AY Gv (.b1 N L N N.length 0 z)=AY Gv (.b2 N L L L.length 0 z):=by
 have C:=h.len;refine QU (fun i=>AY Gv (.b1 N L N N.length i z)) N.length _ (fun i hi=>(AQ _ _).trans ?_) ((AQ _ _).trans (by simp only[Gv,DN,IG,cond_false]));have hc:Ym (((N.drop 0).take (i - 0))) N[i]=some ⟨false,N[i]⟩:=Zlk _ _ (by simp;omega) (fun y I=>by
  obtain⟨k,G,rfl⟩:=List.getElem_of_mem I;simp only[List.length_take,List.length_drop]at G;simp only[List.getElem_take,List.getElem_drop];rw[h.addr _ (by omega),h.addr i hi];omega)
 have D:decide ((0:Int)<=(i:Int)/\(i:Int)<=(N.length:Int))=true:=decide_eq_true (by omega);simp only[Gv,DN,Gt i N.length hi,I4 i N hi,List.getElem?_eq_getElem hi,cond_true,cond_false,Option.bind_some,ZqN _ (h.lt i hi).1 (h.lt i hi).2,Bool.not_true,D,Int.toNat_natCast,hc,Gi i (by omega)]
theorem ZqT {N:List Ae} (h:SS N) (L:List BR) (z:Aq):AY Fe (.b1 N L 0 z)=AY Fe (.b3 N L 0 z):=by
 have D:=h.len;refine QU (fun i=>AY Fe (.b1 N L i z)) N.length _ (fun i hi=>(AQ _ _).trans ?_) ((AQ _ _).trans (by simp only[Fe,DN,IG,cond_false]));have b2:=QU (fun k=>AY Fe (.b2 N L i k z)) i (AY Fe (.b1 N L ((i+1:Nat):Int) z)) (fun k G=>(AQ _ _).trans (by
   have C : k<N.length:=by omega
   have I:(N[k].Address==N[i].Address)=false:=beq_eq_false_iff_ne.2 (by rw[h.addr k C,h.addr i hi];omega);simp only[Fe,DN,Gt k i G,I4 k N C,JK k N C,I4 i N hi,JK i N hi,cond_true,Option.bind_some,I,cond_false,Gi k (by omega)]))
  ((AQ _ _).trans (by simp only[Fe,DN,IG,cond_false,Gi i (by omega)]))
 simp only[Fe,DN,Gt i N.length hi,I4 i N hi,JK i N hi,cond_true,cond_false,Option.bind_some,ZpT _ (h.lt i hi).1 (h.lt i hi).2,Bool.not_true];exact b2
theorem Zt6 (a b:BR):∃r,XL a b=some r/\gU a b=some r/\(r=true->Sv a b):=by
 have h:XL a b=cond (decide (a.A<b.A)) (some true) (cond (a.A==b.A) (some (decide (a.B<b.B))) (some false)):=(AQ _ _).trans (by simp only[Z6K,DN]);have h' : gU a b=XL a b:=by
  rw[h];exact(AQ _ _).trans (by simp only[Z78,DN])
 rw[h',h]
 by_cases z:a.A<b.A
 ·rw[decide_eq_true z];exact⟨_,rfl,rfl,fun _=>.inl z⟩
 ·rw[decide_eq_false z]
  by_cases C:a.A=b.A
  ·rw[beq_iff_eq.2 C];exact⟨_,rfl,rfl,fun e=>.inr ⟨C,of_decide_eq_true e⟩⟩
  ·rw[beq_eq_false_iff_ne.2 C];exact⟨_,rfl,rfl,fun e=>by cases e⟩
def Vl (N:List Ae) (L:List BR) (i:Nat):Prop:=∀(j:Nat) (h:j<L.length),i<=j->(0<=L[j].A/\L[j].A<L[j].B/\L[j].B<N.length)/\(∀k (z:k+1=j),Sv (L[k]'(by omega)) L[j])
def NewR (N:List Ae) (L:List BR) (i:Nat) (r:Aq×Int):Prop:=(r.1=CP [] []/\r.2≠0)\/(r=(CP N L,0)/\Vl N L i)
theorem Zso {N:List Ae} (h:SS N) (L:List BR) (M:L.length*16<=lim) (D:L.length<=maxLen):∀d i:Nat,i+d=L.length->∃r,AY Gv (.b2 N L L L.length i (CP [] []))=some r/\AY Fe (.b3 N L i (CP [] []))=some r/\NewR N L i r:=by
 have hlen:=h.len;have hbig:L.length<=10000000000000:=by unfold lim at M;omega
 intro d;induction d with
 | zero=>
  intro i hi;obtain rfl:i=L.length:=by omega
  refine⟨(CP N L,0),(AQ _ _).trans ?_,(AQ _ _).trans ?_,.inr ⟨rfl,fun j hj hi=>by omega⟩⟩
  ·simp only[Gv,DN,IG,cond_false,Z9L N L (by omega) M D h.own,Option.bind_some,cond_true]
  ·simp only[Fe,DN,IG,cond_false,List.nil_append,Nat.zero_add,kA1 N.length 480 (by omega) (by omega),kA2 N.length (by omega),decide_eq_true M,decide_eq_true D,Bool.and_self,cond_true]
 | succ d ih=>
  intro i hi;have hi' : i<L.length:=by omega
  obtain⟨r,h1,h2,hr⟩:=ih (i+1) (by omega);have J:AY Gv (.b3 (CP [] []))=some (CP [] [],5):=(AQ _ _).trans (by simp only[Gv,DN]);have e5:AY Gv (.b5 (CP [] []))=some (CP [] [],13):=(AQ _ _).trans (by simp only[Gv,DN]);have Y:AY Gv (.b6 N L L L.length i (CP [] []))=some r:=(AQ _ _).trans (by simp only[Gv,DN,Gi i (by omega)];exact h1);have f4:AY Fe (.b4 (CP [] []))=some (CP [] [],5):=(AQ _ _).trans (by simp only[Fe,DN]);have f6:AY Fe (.b6 (CP [] []))=some (CP [] [],13):=(AQ _ _).trans (by simp only[Fe,DN]);have f7:AY Fe (.b7 N L i (CP [] []))=some r:=(AQ _ _).trans (by simp only[Fe,DN,Gi i (by omega)];exact h2);have m4:∃q,AY Gv (.b4 N L i L L.length i (CP [] []) L[i])=some q/\AY Fe (.b5 N L i (CP [] []) L[i])=some q/\((q.1=CP [] []/\q.2≠0)\/(q=(CP N L,0)/\Vl N L (i+1)/\∀k (z:k+1=i),Sv (L[k]'(by omega)) L[i])):=by
   by_cases h0:i=0
   ·subst h0;have C:decide (((0:Nat):Int)>0)=false:=rfl;refine⟨r,(AQ _ _).trans ?_,(AQ _ _).trans ?_,hr.imp id fun q=>⟨q.1,q.2,fun k z=>by omega⟩⟩
    ·simp only[Gv,DN,C,cond_false];exact Y
    ·simp only[Fe,DN,C,cond_false];exact f7
   ·obtain⟨k,rfl⟩:∃k,i=k+1:=⟨i - 1,by omega⟩;have C:decide (((k+1:Nat):Int)>0)=true:=decide_eq_true (by omega);have I:Ad (((k+1:Nat):Int) - 1)=(k:Int):=by rw[Ez (by omega) (by omega)];omega
    have z:k<L.length:=by omega
    obtain⟨b,hb,G,Q⟩:=Zt6 L[k] L[k+1];cases b with
    | true=>
     refine⟨r,(AQ _ _).trans ?_,(AQ _ _).trans ?_,hr.imp id fun q=>⟨q.1,q.2,fun k' hk' =>by
      obtain rfl:k' = k:=by omega
      exact Q rfl⟩⟩
     ·simp only[Gv,DN,C,cond_true,I,I4 k L z,JK k L z,Option.bind_some,hb,Bool.not_true,cond_false];exact Y
     ·simp only[Fe,DN,C,cond_true,I,I4 k L z,JK k L z,Option.bind_some,G,Bool.not_true,cond_false];exact f7
    | false=>
     refine⟨(CP [] [],13),(AQ _ _).trans ?_,(AQ _ _).trans ?_,.inl ⟨rfl,by decide⟩⟩
     ·simp only[Gv,DN,C,cond_true,I,I4 k L z,JK k L z,Option.bind_some,hb,Bool.not_false];exact e5
     ·simp only[Fe,DN,C,cond_true,I,I4 k L z,JK k L z,Option.bind_some,G,Bool.not_false];exact f6
  obtain⟨q,q1,q2,hq⟩:=m4;have hm:AY Gv (.b2 N L L L.length i (CP [] []))=cond (decide (L[i].A<0)) (some (CP [] [],5)) (cond (decide (L[i].A>=L[i].B)) (some (CP [] [],5)) (cond (decide (L[i].B>=(N.length:Int))) (some (CP [] [],5)) (some q))):=(AQ _ _).trans (by
   simp only[Gv,DN,Gt i L.length hi',I4 i L hi',JK i L hi',cond_true,Option.bind_some,J,q1])
  have hd:AY Fe (.b3 N L i (CP [] []))=cond (decide (L[i].A<0)) (some (CP [] [],5)) (cond (decide (L[i].B<=L[i].A)) (some (CP [] [],5)) (cond (decide (L[i].B>=(N.length:Int))) (some (CP [] [],5)) (some q))):=(AQ _ _).trans (by
   simp only[Fe,DN,Gt i L.length hi',I4 i L hi',JK i L hi',cond_true,Option.bind_some,f4,q2])
  have R:decide (L[i].A>=L[i].B)=decide (L[i].B<=L[i].A):=rfl;rw[hm,hd,R];cases d1:decide (L[i].A<0)
  ·cases d2:decide (L[i].B<=L[i].A)
   ·cases d3:decide (L[i].B>=(N.length:Int))
    ·refine⟨q,rfl,rfl,hq.imp id fun⟨e,e2,J⟩=>⟨e,fun j hj hij=>?_⟩⟩
     by_cases S:j=i
     ·subst S;have:=of_decide_eq_false d1;have:=of_decide_eq_false d2;have:=of_decide_eq_false d3;exact⟨by omega,fun k z=>J k z⟩
     ·exact e2 j hj (by omega)
    ·exact⟨_,rfl,rfl,.inl ⟨rfl,by decide⟩⟩
   ·exact⟨_,rfl,rfl,.inl ⟨rfl,by decide⟩⟩
  ·exact⟨_,rfl,rfl,.inl ⟨rfl,by decide⟩⟩
theorem v_new (N:List Ae) (L:List BR) (G:L.length*16<=lim) (z:L.length<=maxLen) (h:SS N):∃r,zG N L=some r/\Zf N L=some r/\NewR N L 0 r:=by
 have J:N.length<=16:=h.1;have c:decide ((N.length:Int)>16)=false:=decide_eq_false (by omega);obtain⟨r,C,D,I⟩:=Zso h L G z L.length 0 (by omega);refine⟨r,(AQ _ _).trans ?_,(AQ _ _).trans ?_,I⟩
 ·simp only[Gv,DN,c,cond_false];exact(Zss h L _).trans C
 ·simp only[Fe,DN,c,cond_false];exact(ZqT h L _).trans D
theorem Z9W (N:List Ae) (L:List BR) (D:N.length<=1000) (C:L.length<=10000000000000) (z:∀x∈N,gV x x=some true):eH (CP N L) (CP N L)=some true:=(AQ _ _).trans (by
 have b6:AY Jf (.b5 0 (CP N L) (CP N L))=some true:=(AQ _ _).trans (by simp only[Jf,DN,List.length_nil,b00,cond_false]);have b4:AY Jf (.b4 0 (CP N L) (CP N L))=some true:=(AQ _ _).trans (by simp only[Jf,DN,List.length_nil,b00,cond_false,b6]);have b3:=QU (fun i=>AY Jf (.b3 i (CP N L) (CP N L))) L.length (some true) (fun i hi=>(AQ _ _).trans (by
   simp only[Jf,DN,Gt i L.length hi,I4 i L hi,JK i L hi,cond_true,Option.bind_some,beq_self_eq_true,Bool.and_self,Bool.not_true,cond_false,Gi i (by omega)]))
  ((AQ _ _).trans (by simp only[Jf,DN,IG,cond_false,b4]))
 have b2:=QU (fun i=>AY Jf (.b2 i (CP N L) (CP N L))) N.length (some true) (fun i hi=>(AQ _ _).trans (by
   simp only[Jf,DN,Gt i N.length hi,I4 i N hi,JK i N hi,cond_true,Option.bind_some,z _ (List.getElem_mem hi),Bool.not_true,cond_false,Gi i (by omega)]))
  ((AQ _ _).trans (by simp only[Jf,DN,IG,cond_false];exact b3))
 have b1:AY Jf (.b1 (CP N L) (CP N L))=some true:=(AQ _ _).trans (by simp only[Jf,DN];exact b2);simp only[Jf,DN,bne_self_eq_false,cond_false,b1])
theorem nds_K (p:F7) (h:(Ju p).length<=16):SS (Ju p):=
 ⟨h,ZoQ p,fun x z=>by obtain⟨a,r,f,rfl⟩:=Z0k z;exact Zba a r f⟩
theorem Zpu (p:F7) (hn:p.Dq.length<=16) (G:p.BA.length*16<=lim) (D:p.BA.length<=maxLen) (Y:p.BG=[]):∃m x e,xC p=some (m,x,e,true)/\(e≠0\/(e=0/\m=CP (Ju p) p.BA/\Vl (Ju p) p.BA 0)):=by
 obtain⟨r,R,S,hr⟩:=v_new (Ju p) p.BA G D (nds_K p (by rw[ZQ];exact hn));have C:p.BA.length<=10000000000000:=by unfold lim at G;omega
 have hs:eH r.1 r.1=some true:=by
  rcases hr with hr|hr
  ·rw[hr.1];exact Z9W [] [] (by simp) (by simp) (fun x I=>by cases I)
  ·rw[hr.1];exact Z9W _ _ (by rw[ZQ];omega) C (fun x I=>by obtain⟨a,r,f,rfl⟩:=Z0k I;exact ZsJ a r f)
 have b2:∀z J,AY dX (.b1 r.2 p z J r.1 r.1)=some ({ r.1 with BG:=[] },{ r.1 with BG:=[] },r.2,true):=fun z J =>(AQ _ _).trans (by
  have M:decide (0*16<=lim)=true:=decide_eq_true (Nat.zero_le _);have Q:decide (0<=maxLen)=true:=decide_eq_true (Nat.zero_le _);simp only[dX,DN,Y,List.length_nil,Nat.zero_add,Nat.add_zero,M,Q,Bool.and_self,cond_true,List.nil_append])
 refine⟨{ r.1 with BG:=[] },{ r.1 with BG:=[] },r.2,(AQ _ _).trans ?_,?_⟩
 ·simp only[dX,DN,ZpJ p (by omega),Option.bind_some,List.nil_append,Nat.zero_add,decide_eq_true G,decide_eq_true D,Bool.and_self,cond_true,R,S,bne_self_eq_false,cond_false,hs,Bool.not_true];exact b2 _ _
 ·rcases hr with hr|⟨rfl,hv⟩
  ·exact .inl hr.2
  ·exact .inr ⟨rfl,rfl,hv⟩
theorem Vl.link {N:List Ae} {L:List BR} (h:Vl N L 0):LM N.length L:=by
 refine⟨fun l G=>?_,?_⟩
 ·obtain⟨i,hi,rfl⟩:=List.getElem_of_mem G;exact(h i hi (Nat.zero_le _)).1
 ·rw[List.pairwise_iff_getElem];have key:∀d i (C:i<L.length) (z:i+d+1<L.length),Sv L[i] L[i+d+1]:=by
   intro d;induction d with
   | zero=>intro i C z;exact(h (i+1) z (Nat.zero_le _)).2 i rfl
   | succ d I=>
    intro i C z;have a:=I i C (by omega);have b:=(h (i+(d+1)+1) z (Nat.zero_le _)).2 (i+d+1) (by omega);unfold Sv at *;rcases a with a|⟨a,J⟩<;>rcases b with b|⟨b,M⟩
    ·exact .inl (by omega)
    ·exact .inl (by omega)
    ·exact .inl (by omega)
    ·exact .inr ⟨by omega,by omega⟩
  intro i j hi Q D;have:=key (j - i - 1) i hi (by omega);simpa[show i+(j - i - 1)+1=j by omega]using this
theorem Zo1 (N:List Ae) (L:List BR) (Y:N.length<=1000) (R:L.length*16<=lim) (C:L.length<=maxLen) (S:∀x∈N,Om x=some x):dU (CP N L)=some ⟨CP N L,N,L,[],[],[]⟩:=(AQ _ _).trans (by
 have G:UE N=some ⟨N⟩:=if_pos ⟨of_decide_eq_true (kA1 _ _ (by omega) (by omega)),of_decide_eq_true (kA2 _ (by omega))⟩;have I:UG L=some ⟨L⟩:=if_pos ⟨R,C⟩;have J:UM []=some ⟨[]⟩:=if_pos (KJ _);have M:UQ []=some ⟨[]⟩:=if_pos (KJ _);have Q:TZ []=some ⟨[]⟩:=if_pos (KJ _);have D:decide ((0:Int)<((0:Nat):Int))=false:=rfl;have b3:∀z,AY Ob (.b3 ((0:Nat):Int) 0 (CP N L) z N L [] [] [])=some ⟨CP N L,N,L,[],[],[]⟩:=fun z=>(AQ _ _).trans (by
  simp only[Ob,DN,D,cond_false,cond_true,Bool.and_self])
 have b2:∀z,AY Ob (.b2 ((0:Nat):Int) 0 (CP N L) z N L [] [])=some ⟨CP N L,N,L,[],[],[]⟩:=fun z=>(AQ _ _).trans (by
  simp only[Ob,DN,D,cond_false,Q,Option.bind_some,Bool.and_self,cond_true,List.length_nil];exact b3 z)
 have b1:=fun z=>QU (fun i=>AY Ob (.b1 N.length i (CP N L) z N)) N.length (some (⟨CP N L,N,L,[],[],[]⟩:QN)) (fun i hi=>(AQ _ _).trans (by
   simp only[Ob,DN,Gt i N.length hi,KX i _ hi,List.getElem?_eq_getElem hi,cond_true,Option.bind_some,S _ (List.getElem_mem hi),List.length_set,beq_self_eq_true,Nat.zero_le,decide_true,Bool.and_self,Int.toNat_natCast,List.set_getElem_self,Gi i (by omega)]))
  ((AQ _ _).trans (by
   simp only[Ob,DN,IG,cond_false,I,J,M,Option.bind_some,Bool.and_self,cond_true,List.length_nil];exact b2 z))
 simp only[Ob,DN,G,Option.bind_some,cond_true];exact b1 _)
theorem Zrj (m:Aq) (i:Nat) (b:List Int) (hi:i<m.Ak.length) (I:m.Now=0):yH m (FH i b)=some ⟨0,m.Ak,m.BA,m.BG,m.Flight,m.Notes⟩:=by
 have b1:AY eQ (.b1 m (FH i b))=some ⟨0,m.Ak,m.BA,m.BG,m.Flight,m.Notes⟩:=(AQ _ _).trans (by
  simp only[eQ,FH,show ((1:Int) != 7)=true from rfl,DN,cond_true,Bool.and_self])
 refine(AQ _ _).trans ?_;have z:decide ((i:Int)<0)=false:=decide_eq_false (by omega);have C:decide ((i:Int)>=(m.Ak.length:Int))=false:=decide_eq_false (by omega);have D:decide ((3:Int)<0)=false:=rfl;have G:decide ((3:Int)>Ad (0+100000))=false:=rfl;simp only[eQ,show (FH i b).Node=i from rfl,show (FH i b).Time=3 from rfl,I,z,C,D,G,b1,DN,cond_true,cond_false,Bool.and_self]
theorem Z99 (o:DV) (D:o.Time=3) (z w:Aq) (q1 q2 q3 q4 q5):∀(k:Nat) (a:Int) (m C : Aq),Md k a m C -> a+k=3->AY RV (.b1 m o z w q1 q2 q3 q4 q5)=AY RV (.b1 C o z w q1 q2 q3 q4 q5)
 | 0,a,m,C,⟨h,_⟩,_=>by rw[h]
 | k+1,a,m,C,⟨M,G,I,J⟩,Q=>by
  have c:decide (m.Now<o.Time)=true:=decide_eq_true (by rw[G,D];omega);refine((AQ _ _).trans ?_).trans (Z99 o D z w q1 q2 q3 q4 q5 k (a+1) M C J (by omega));simp only[RV,c,I,DN,Option.bind_some,cond_true,Bool.and_self]
theorem Z8g (z:Aq):∀(k:Nat) (a:Int) (m C : Aq),Md k a m C -> a+k=51->AY MO (.b3 51 m z)=some (C,0)
 | 0,a,m,C,⟨h,h'⟩,J=>by
  subst h;have c:decide (C.Now<51)=false:=decide_eq_false (by rw[h'];omega);exact(AQ _ _).trans (by simp only[MO,c,DN,cond_false,cond_true,Bool.and_self])
 | k+1,a,m,C,⟨M,D,G,I⟩,J=>by
  have c:decide (m.Now<51)=true:=decide_eq_true (by rw[D];omega);refine((AQ _ _).trans ?_).trans (Z8g z k (a+1) M C I (by omega));simp only[MO,c,G,DN,Option.bind_some,cond_true,Bool.and_self]
def Ye (p:F7) (s:Nat) (b:List Int):Pr:=⟨p.Dq.length,s,fun i=>p.Dq.getD i false,fun i=>decide (i<p.Iz.length)&&p.Iz.getD i false,fun _=>0,fun _=>0,b,p.BA⟩
def H5 (p:Pr):Pr:={ p with sq:=upd p.sq p.s 1,st:=upd p.st p.s 100 }
theorem ZaX {p:Pr} (z:FU p):FU (H5 p):=⟨z.n8,z.sn,fun i=>by
 show upd p.sq p.s 1 i<=1000;unfold upd;cases (i==p.s)
 ·exact z.sq i
 ·exact(by decide:(1:Int)<=1000),z.b0,z.b1,z.b2,z.L⟩
theorem ZpZ {p:Pr} {T:Nat->Prop} {A8 now:Int} {fl:List CS} (h:TL p T A8 now fl):TL (H5 p) T A8 now fl:=
 ⟨fun x z=>⟨(h.hop x z).due,(h.hop x z).to,(h.hop x z).bs⟩,h.src,h.all,h.len⟩
theorem ZrU {p:Pr} {h:Nat->Bool} {now:Int} {nt:List EE} (k:Px p h now nt):Px (H5 p) h now nt:=⟨k.cnt,k.ev,k.len⟩
theorem ZsR {p:Pr} (D:FU p) (hq:p.sq p.s=0) (hs:p.st p.s=0) (hL:p.L.length*16<=lim) (R:p.L.length<=maxLen) (ho:∀x∈EZ p (fun _=>false) (oq p (fun _=>false) 1000 0),Om x=some x) :
  ∃m4 y,yS (CP (EZ p (fun _=>false) (oq p (fun _=>false) 1000 0)) p.L) (FH p.s p.b)=some y/\y.q0=m4/\St (H5 p) (fun _=>false) (fun i=>i==p.s) 3 127 (fun _=>False) 5 3 m4:=by
 have C:=VL p (fun _=>false) (oq p (fun _=>false) 1000 0);have hn8:=D.n8;have S0:St p (fun _=>false) (fun _=>false) 1000 0 (fun _=>False) 5 0 (CP (EZ p (fun _=>false) (oq p (fun _=>false) 1000 0)) p.L):=
  ⟨[],[],0,rfl,⟨(fun x Q=>nomatch Q),(fun x Q=>nomatch Q),fun _ _ h=>h.elim,Nat.zero_le _⟩,⟨fun _=>rfl,(fun x Q=>nomatch Q),Int.le_refl _⟩⟩
 obtain⟨m1,e1,_,S1⟩:=VQ D ⟨by decide,by decide⟩ ⟨by decide,by decide⟩ S0;obtain⟨m2,e2,_,S2⟩:=VQ D ⟨by decide,by decide⟩ ⟨by decide,by decide⟩ (S1 (by decide) 5);obtain⟨m3,e3,_,S3⟩:=VQ D ⟨by decide,by decide⟩ ⟨by decide,by decide⟩ (S2 (by decide) 5);have I : St p (fun _=>false) (fun _=>false) 1000 0 (fun _=>False) 5 3 m3:=S3 (by decide) 5;have tk:Md 3 0 (CP (EZ p (fun _=>false) (oq p (fun _=>false) 1000 0)) p.L) m3:=⟨m1,rfl,e1,m2,(S1 (by decide) 5).now,e2,m3,(S2 (by decide) 5).now,e3,rfl,I.now⟩;obtain⟨fl,nt,cnt,hm3,hf,hn⟩:=I.ex;have hm:=D.msg (A8:=127) (by decide) (by decide);have G:(EZ p (fun _=>false) (oq p (fun _=>false) 1000 0))[p.s]? = some (nv (aV p) (p.r p.s) (p.f p.s) [] [] [] 0 0):=by
  rw[jY p _ _ p.s D.sn];unfold nd;rw[hq,hs];rfl
 have J:=Zpv (aV p) p.s p.b hm (p.r p.s) (p.f p.s) 3;have M:(EZ p (fun _=>false) (oq p (fun _=>false) 1000 0)).set p.s (nv (aV p) (p.r p.s) (p.f p.s) [] [] [⟨3,mE (aV p) 127 p.b,0⟩] 1 100)=EZ (H5 p) (fun _=>false) (oq (H5 p) (fun i=>i==p.s) 3 127):=by
  refine List.ext_getElem (by simp[EZ,H5]) fun i h1 h2=>?_;have hi:i<p.n:=by simpa[EZ,H5]using h2
  rw[List.getElem_set];split
  ·rename_i e;subst e;simp[EZ,nd,H5,upd,oq,Ls,IX,aV]
  ·rename_i e;have e' : (i==p.s)=false:=beq_eq_false_iff_ne.2 (fun h=>e h.symm);simp[EZ,nd,H5,upd,oq,Ls,e']
 have b1:∀z w q1 q2 q3 q4 q5,∃y,AY RV (.b1 m3 (FH p.s p.b) z w q1 q2 q3 q4 q5)=some y/\y.q0=I5 (H5 p) (fun _=>false) (oq (H5 p) (fun i=>i==p.s) 3 127) fl nt cnt 3:=fun z w q1 q2 q3 q4 q5=>by
  refine⟨⟨I5 (H5 p) (fun _=>false) (oq (H5 p) (fun i=>i==p.s) 3 127) fl nt cnt 3,0,q1,q2,q3,q4,q5⟩,(AQ _ _).trans ?_,rfl⟩;subst hm3;have c:decide ((3:Int)<3)=false:=rfl;have Y:=KX p.s p.n D.sn;simp only[RV,show (FH p.s p.b).Time=3 from rfl,show (FH p.s p.b).Node=(p.s:Int) from rfl,show ((FH p.s p.b).Kind==7)=false from rfl,c,C,Y,Int.toNat_natCast,G,J,GH,M,Z0c,List.length_set,Nat.zero_le,decide_true,beq_self_eq_true,DN,Option.bind_some,cond_true,cond_false,Bool.and_self];rfl
 have hw:=Zrj (CP (EZ p (fun _=>false) (oq p (fun _=>false) 1000 0)) p.L) p.s p.b (by rw[C];exact D.sn) rfl;have S:=Zo1 (EZ p (fun _=>false) (oq p (fun _=>false) 1000 0)) p.L (by omega) hL R ho;obtain⟨y,hy,hy0⟩:=b1 Ib (CP (EZ p (fun _=>false) (oq p (fun _=>false) 1000 0)) p.L) (EZ p (fun _=>false) (oq p (fun _=>false) 1000 0)) p.L [] [] [];refine⟨_,y,(AQ _ _).trans ?_,hy0,⟨fl,nt,cnt,rfl,ZpZ hf,ZrU hn⟩⟩;simp only[RV,S,hw,GH,DN,Option.bind_some,cond_true,cond_false];exact(Z99 _ rfl _ _ _ _ _ _ _ 3 0 _ _ tk (by decide)).trans hy
theorem run_end {p:Pr} (Y:FU p) (hq:p.sq p.s=0) (hs:p.st p.s=0) (hL:p.L.length*16<=lim) (C:p.L.length<=maxLen) (ho:∀x∈EZ p (fun _=>false) (oq p (fun _=>false) 1000 0),Om x=some x) :
  ∃h m,gG (CP (EZ p (fun _=>false) (oq p (fun _=>false) 1000 0)) p.L) [FH p.s p.b] 51=some (m,0)/\(∃d A8 q G,St (H5 p) h q d A8 (fun _=>False) G 51 m)/\∀j,h j=true↔j<p.n/\j≠p.s/\NQ (H5 p) j:=by
 have hlen:=VL p (fun _=>false) (oq p (fun _=>false) 1000 0);have hn8:=Y.n8;have D :=ZaX Y;obtain⟨I,y,Q,hy,S4⟩:=ZsR Y hq hs hL C ho;obtain⟨m5,e5,S5,_⟩:=VQ D ⟨by decide,by decide⟩ ⟨by decide,by decide⟩ S4;have J :=S5 (by decide) 0 0;have L0:Lg (H5 p) (fun _=>false) (fun i=>(i==p.s)=true) 0:=by
  refine⟨rfl,fun j e=>(by cases e),fun j e=>(by cases e),fun i e=>.inl (beq_iff_eq.1 e),fun i _ e=>?_,fun _ _ _=>Nat.zero_le _⟩;rcases e with e|⟨e,_⟩
  ·exact .inl (beq_iff_eq.2 e)
  ·cases e
 obtain⟨h,m,tk,S,hh⟩:=Zmo D J L0;refine⟨h,m,?_,S,hh⟩;have tk' : Md 48 3 I m:=⟨m5,S4.now,e5,tk⟩;have z:oP [FH p.s p.b]=some ⟨true⟩:=by
  have b1:AY Yj (.b1 [FH p.s p.b] 0)=some ⟨true⟩:=(AQ _ _).trans (by
   simp only[Yj,show decide ((0:Int)>0)=false from rfl,DN,cond_false])
  refine(AQ _ _).trans ?_;simp only[Yj,show Ad (([FH p.s p.b].length:Int) - 1)=0 from rfl,DN];exact b1
 have R:=Z9L (EZ p (fun _=>false) (oq p (fun _=>false) 1000 0)) p.L (by omega) hL C ho;have b3:=Z8g Ib 48 3 I m tk' (by decide);have M : AY MO (.b1 51 [FH p.s p.b] ((1:Nat):Int) ((1:Nat):Int) I Ib)=some (m,0):=(AQ _ _).trans (by
  simp only[MO,IG,b3,DN,cond_false,cond_true,Bool.and_self])
 have b2:AY MO (.b2 51 [FH p.s p.b] ((1:Nat):Int) 0 I Ib)=some (m,0):=(AQ _ _).trans (by
  simp only[MO,show Ad ((0:Int)+1)=((1:Nat):Int) from rfl,M,DN,cond_true,Bool.and_self])
 have b1:AY MO (.b1 51 [FH p.s p.b] ((1:Nat):Int) 0 (CP (EZ p (fun _=>false) (oq p (fun _=>false) 1000 0)) p.L) Ib)=some (m,0):=(AQ _ _).trans (by
  have c1:decide ((0:Int)<((1:Nat):Int))=true:=rfl;have c2:decide ((0:Int)<=0/\(0:Int)<(([FH p.s p.b].length:Nat):Int))=true:=rfl;have g0:([FH p.s p.b])[Int.toNat 0]? = some (FH p.s p.b):=rfl;have c3:decide ((FH p.s p.b).Time<=51)=true:=rfl;simp only[MO,c1,c2,g0,c3,Q,hy,b2,DN,Option.bind_some,cond_true,Bool.and_self])
 refine(AQ _ _).trans ?_;have c:decide ((51:Int)>Ad (0+100000))=false:=rfl;simp only[MO,z,c,R,Bool.not_true,List.length_cons,List.length_nil,DN,Option.bind_some,cond_false,cond_true];exact b1
end Go.Proofs.YteinepnbndegdaaGreat
