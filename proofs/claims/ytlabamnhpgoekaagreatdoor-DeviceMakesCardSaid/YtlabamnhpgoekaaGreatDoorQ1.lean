/- A part of it. -/
import Derived.Test.YtlabamnhpgoekaaGreatDoorDUn
import Derived.Laws.BitsAllLaws
import Derived.Test.YtlabamnhpgoekaaGreatDoorF2
import Derived.Test.YtlabamnhpgoekaaGreatDoorRows
import Derived.LaidByTextLater
import Derived.SevenTiedAt
set_option linter.unusedVariables false
set_option linter.unusedSimpArgs false
namespace Go.Proofs.YtlabamnhpgoekaaGreatDoor
open Go Go.Proofs.YtlabamnhpgoekaaGreatDoor.Le
set_option maxRecDepth 100000
theorem FU {n:Int} (h : -9223372036854775808<=n) (h' : n<=9223372036854775807):Af n=n:=by
 simp only [Af,IntKind.wrap,IntKind.signed,IntKind.bits]
 simp
 omega
theorem EK (i:Nat) (h:i<4611686018427387904):Af ((i:Int)+1)=((i+1:Nat):Int):=by
 rw [FU (by omega) (by omega)];simp
theorem wu64 {n:Int} (h:0<=n) (h' : n<18446744073709551616):IntKind.wrap .u64 n=n:=by rw [IntKind.wrap_u64];exact Int.emod_eq_of_lt h h'
theorem QH {n:Int} (h:0<=n) (h' : n<4294967296):IntKind.wrap .u32 n=n:=by rw [IntKind.wrap_u32];exact Int.emod_eq_of_lt h h'
theorem SI {n:Int} (h:0<=n) (h' : n<65536):IntKind.wrap .u16 n=n:=by rw [IntKind.wrap_u16];exact Int.emod_eq_of_lt h h'
theorem wu8 {n:Int} (h:0<=n) (h' : n<256):IntKind.wrap .u8 n=n:=by rw [IntKind.wrap_u8];exact Int.emod_eq_of_lt h h'
theorem Yx (n:Int):0<=IntKind.wrap .u64 n/\IntKind.wrap .u64 n<18446744073709551616:=by rw [IntKind.wrap_u64];omega
theorem r32 (n:Int):0<=IntKind.wrap .u32 n/\IntKind.wrap .u32 n<4294967296:=by rw [IntKind.wrap_u32];omega
theorem b64 (o:BinOp) (a b:Int):0<=bits o .u64 a b/\bits o .u64 a b<18446744073709551616:=Yx _
theorem b32 (o:BinOp) (a b:Int):0<=bits o .u32 a b/\bits o .u32 a b<4294967296:=r32 _
theorem wraps_u64 (n:Int) (h₀:0<=n) (h₁:n<2 ^ 64):IntKind.u64.wrap n=n:=wu64 h₀ h₁
theorem Z4J (k:IntKind) (j:Nat) (hj:j<=k.bits) (hk:∀n:Int,0<=n->n<2 ^ j->k.wrap n=n) (i:Nat) (hi:i<=j)
  (x y:Int) (hy₀:0<=y) (hy:y % 2 ^ i=0) (hy₁:y<2 ^ j) (hx₀:0<=x) (hx:x<2 ^ i):bits .or k x y=x+y:=by
 have hx₁:x<2 ^ j:=Int.lt_of_lt_of_le hx (by exact_mod_cast Nat.pow_le_pow_right (by decide) hi)
 have h:=bits_join k j hj hk i y x hy₀ hy hy₁ hx₀ hx hx₁
 obtain⟨a,rfl⟩:=Int.eq_ofNat_of_zero_le hx₀
 obtain⟨b,rfl⟩:=Int.eq_ofNat_of_zero_le hy₀
 rw [(bits_nat k j hj hk b a (by exact_mod_cast hy₁) (by exact_mod_cast hx₁)).2] at h
 rw [(bits_nat k j hj hk a b (by exact_mod_cast hx₁) (by exact_mod_cast hy₁)).2,Nat.or_comm,h,Int.add_comm]
theorem ZkX {i n:Nat} (h:i<n):decide (i<n)=true:=decide_eq_true h
theorem ZiR {i n:Nat} (h:n<=i):decide (i<n)=false:=decide_eq_false (by omega)
theorem Zk2:1000000000<=lim:=by decide
theorem Z2a:1000000000<=maxLen:=by decide
theorem Z4f (a b k:Nat) (h:a+b<=1000000) (hk:k<=1000):(decide ((a+b)*k<=lim)&&decide (a+b<=maxLen))=true:=by
 have h1:(a+b)*k<=1000000000:=Nat.le_trans (Nat.mul_le_mul h hk) (by decide)
 exact Bool.and_eq_true_iff.mpr ⟨decide_eq_true (Nat.le_trans h1 Zk2),decide_eq_true (Nat.le_trans (Nat.le_trans h (by decide)) Z2a)⟩
theorem ZiD (a k:Nat) (h:a<=1000000) (hk:k<=1000):(decide (a*k<=lim)&&decide (a<=maxLen))=true:=by
 simpa using Z4f 0 a k (by simpa using h) hk
theorem SL:(∀n:Nat,(0:Int)<=(n:Int))/\(∀n m:Nat,((n:Int)<(m:Int))↔n<m)/\(∀n:Nat,Int.toNat (n:Int)=n) /\
  (∀(α:Type) (l:List α) (i:Nat) (h:i<l.length),l[i]? = some l[i])/\(∀(α:Type) [BEq α] [ReflBEq α] (a:α),(a==a)=true) /\
  (∀a:Bool,(a&&true)=a)/\(∀a:Bool,(true&&a)=a)/\(∀(α:Type) (a b:List α),(a++b).length=a.length+b.length)/\(∀(α:Type) (a:List α),[]++a=a)/\(∀n:Nat,0+n=n) /\
  (∀a b k:Nat,a+b<=1000000->k<=1000->(decide ((a+b)*k<=lim)&&decide (a+b<=maxLen))=true)/\(∀a k:Nat,a<=1000000->k<=1000->(decide (a*k<=lim)&&decide (a<=maxLen))=true) /\
  (∀i:Nat,i<4611686018427387904->Af ((i:Int)+1)=((i+1:Nat):Int))/\(∀i n:Nat,i<n->decide (i<n)=true)/\(∀i n:Nat,n<=i->decide (i<n)=false):=
 ⟨Int.natCast_nonneg,@Int.ofNat_lt,Int.toNat_natCast,fun _ _ _ h=>List.getElem?_eq_getElem h,fun _ _ _ a=>beq_self_eq_true a,Bool.and_true,Bool.true_and,fun _ _ _=>List.length_append,fun _ a=>List.nil_append a,Nat.zero_add,Z4f,ZiD,EK,fun _ _ h=>ZkX h,fun _ _ h=>ZiR h⟩
theorem SM:(∀(α β:Type) (a:α) (f:α->Option β),(some a).bind f=f a)/\(decide True=true)/\(decide False=false)/\(∀(α:Type) (a b:α),cond true a b=a)/\(∀(α:Type) (a b:α),cond false a b=b) /\
  (∀p:Prop,(True/\p)=p)/\(∀p:Prop,(p/\True)=p)/\(∀α:Type,([]:List α).length=0)/\(∀(α:Type) (a:α) (l:List α),(a::l).length=l.length+1)/\((!true)=false)/\((!false)=true):=
 ⟨fun _ _ _ _=>rfl,rfl,rfl,fun _ _ _=>rfl,fun _ _ _=>rfl,true_and,and_true,fun _=>rfl,fun _ _ _=>rfl,rfl,rfl⟩
theorem Z1D {S R α:Type} (F:S->Int->Option R) (xs:List α) (step:S->α->S) (fin:S->Option R) (Inv:Nat->S->Prop)
  (hstep:∀(i:Nat) s (h:i<xs.length),Inv i s->F s i=F (step s xs[i]) ((i+1:Nat):Int)/\Inv (i+1) (step s xs[i]))
  (hfin:∀s,Inv xs.length s->F s (xs.length:Int)=fin s) (s:S) (h0:Inv 0 s):F s 0=fin (xs.foldl step s)/\Inv xs.length (xs.foldl step s):=by
 have key:∀(ys zs:List α) (s:S),xs=ys++zs->Inv ys.length s->F s (ys.length:Int)=fin (zs.foldl step s)/\Inv xs.length (zs.foldl step s):=by
  intro ys zs
  induction zs generalizing ys with
  | nil=>
   intro s hx hi
   rw [List.append_nil] at hx
   subst hx
   exact⟨hfin s hi,hi⟩
  | cons z zs ih=>
   intro s hx hi
   have hl:ys.length<xs.length:=by rw [hx];simp
   have hz:xs[ys.length]=z:=by simp [hx]
   obtain⟨h1,h2⟩:=hstep ys.length s hl hi
   rw [hz] at h1 h2
   rw [h1]
   have:=ih (ys++[z]) (step s z) (by simp [hx]) (by simpa using h2)
   simpa using this
 exact key [] xs s rfl h0
theorem Zet {α β:Type} (f:α->List β) (xs:List α) (s:List β):xs.foldl (fun s x=>s++f x) s=s++xs.flatMap f:=by
 induction xs generalizing s with
 | nil=>simp
 | cons x xs ih=>simp [List.foldl_cons,ih,List.append_assoc]
def Bytes (xs:List Int):Prop:=∀x∈xs,0<=x/\x<256
theorem Bytes.nil:Bytes []:=fun _ h=>by cases h
theorem Bytes.cons {x:Int} {xs:List Int} (h:0<=x/\x<256) (hx:Bytes xs):Bytes (x::xs):=fun y hy=>by
 rcases List.mem_cons.1 hy with rfl|hy
 ·exact h
 ·exact hx y hy
theorem Bytes.app {xs ys:List Int} (hx:Bytes xs) (hy:Bytes ys):Bytes (xs++ys):=fun y h=>(List.mem_append.1 h).elim (hx y) (hy y)
theorem Bytes.sub {xs ys:List Int} (hx:Bytes xs) (h:∀y∈ys,y∈xs):Bytes ys:=fun y hy=>hx y (h y hy)
theorem Bytes.take {xs:List Int} (hx:Bytes xs) (n:Nat):Bytes (xs.take n):=hx.sub fun _ h=>List.mem_of_mem_take h
theorem Bytes.drop {xs:List Int} (hx:Bytes xs) (n:Nat):Bytes (xs.drop n):=hx.sub fun _ h=>List.mem_of_mem_drop h
theorem Bytes.get {xs:List Int} (hx:Bytes xs) (i:Nat) (h:i<xs.length):0<=xs[i]/\xs[i]<256:=hx _ (List.getElem_mem h)
theorem Bytes.flat {α:Type} (f:α->List Int) (l:List α) (h:∀x∈l,Bytes (f x)):Bytes (l.flatMap f):=fun y hy=>by
 obtain⟨x,hx,hy⟩:=List.mem_flatMap.1 hy
 exact h x hx y hy
def val:List Int->Int
 | []=>0
 | b::r=>b+256*val r
theorem Z3O {xs:List Int} (h:Bytes xs):0<=val xs/\val xs<256 ^ xs.length:=by
 induction xs with
 | nil=>simp [val]
 | cons x xs ih=>
  have h1:=ih fun y hy=>h y (List.mem_cons_of_mem _ hy)
  have h2:=h x List.mem_cons_self
  simp only [val,List.length_cons]
  rw [Int.pow_succ]
  omega
theorem val_append (xs:List Int) (ys:List Int):val (xs++ys)=val xs+256 ^ xs.length*val ys:=by
 induction xs with
 | nil=>simp [val]
 | cons x xs ih=>
  simp only [List.cons_append,val,ih,List.length_cons]
  rw [Int.pow_succ,Int.mul_add,<- Int.mul_assoc,Int.mul_comm 256 (256 ^ xs.length),Int.add_assoc]
theorem Zez {n:Nat} (h:n<=8):(256:Int) ^ n<=18446744073709551616:=
 (by decide:∀n:Fin 9,(256:Int) ^ n.1<=18446744073709551616) ⟨n,by omega⟩
theorem qJ {xs:List Int} (h:Bytes xs) (hl:xs.length<=8):0<=val xs/\val xs<18446744073709551616:=by
 have h1:=Z3O h
 exact⟨h1.1,Int.lt_of_lt_of_le h1.2 (Zez hl)⟩
def num:Nat->Int->List Int
 | 0,_=>[]
 | n+1,v=>(v % 256)::num n (v / 256)
theorem Dw (n:Nat) (v:Int):(num n v).length=n:=by
 induction n generalizing v with
 | zero=>rfl
 | succ n ih=>simp [num,ih]
theorem Zer (n:Nat) (v:Int):Bytes (num n v):=by
 induction n generalizing v with
 | zero=>exact Bytes.nil
 | succ n ih=>exact Bytes.cons (by omega) (ih _)
theorem oN (n:Nat) (v:Int):num (n+1) v=num n v++[v / 256 ^ n % 256]:=by
 induction n generalizing v with
 | zero=>simp [num]
 | succ n ih=>
  have e:num (n+2) v=(v % 256)::num (n+1) (v / 256):=rfl
  rw [e,ih]
  simp only [num,List.cons_append]
  rw [Int.pow_succ,Int.mul_comm,<- Int.ediv_ediv_of_nonneg (by decide)]
theorem via {α:Type} {a b:α} (m:α) (h1:a=m) (h2:b=m):a=b:=h1.trans h2.symm
theorem and32 (x:Int) (h:0<=x) (h' : x<18446744073709551616):bits .and .u64 x (IntKind.wrap .u64 ((IntKind.wrap .u64 ((1:Int)*2 ^ (min (Int.toNat 32) (IntKind.bits .u64)))) - (1:Int)))=x % 4294967296:=by
 have:=bits_mask .u64 64 (by decide) wraps_u64 32 (by decide) x h h'
 exact this
theorem Z7 (x:Int) (h:0<=x) (h' : x<18446744073709551616):Nu x 32=some (x % 4294967296):=(AU _ _).trans (by
 simp only [iW,DN]
 rw [show decide ((32:Int)<=0)=false from rfl,show decide ((32:Int)>=64)=false from rfl,show decide ((0:Int)<=32)=true from rfl]
 simp only [cond_false,cond_true]
 rw [and32 x h h'])
theorem or0 (x:Int) (h:0<=x) (h' : x<18446744073709551616):bits .or .u64 x 0=x:=by
 obtain⟨a,rfl⟩:=Int.eq_ofNat_of_zero_le h
 have:=(bits_nat .u64 64 (by decide) wraps_u64 a 0 (show a<18446744073709551616 by omega) (by decide)).2
 rw [Nat.or_zero] at this
 exact this
def rotl (k:Int) (p q:Nat):Int:=bits .or .u64 (IntKind.wrap .u64 (k*2 ^ p)) (Int.fdiv k (2 ^ q))
theorem rotl0 (k:Int) (h:0<=k) (h' : k<18446744073709551616):rotl k 0 64=k:=by
 unfold rotl
 rw [Int.pow_zero,Int.mul_one,wu64 h h',Int.fdiv_eq_ediv_of_nonneg _ (by decide),show (2:Int) ^ 64=18446744073709551616 from rfl,Int.ediv_eq_zero_of_lt h h',or0 k h h']
theorem ZlL (k:Int) (h:0<=k) (h' : k<18446744073709551616) (i:Int) (h0:0<=i) (h8:i<8) :
  ∃lo,(0<=lo/\lo<4294967296)/\UD k i=some lo/\∃x,QR k (Int.tmod (Af ((11:Int)*(Int.tmod i (64:Int)))) (64:Int))=some x/\∃y,Nu x 32=some y/\IntKind.wrap .u32 y=lo:=by
 have key:∀x,0<=x->x<18446744073709551616->AY XJ (.b1 x)=some (x % 4294967296):=fun x hx hx' =>(AU _ _).trans (by
  simp only [XJ,DN]
  rw [Int.tmod_eq_emod_of_nonneg hx,QH (by omega) (by omega)])
 have hi:i=0\/i=1\/i=2\/i=3\/i=4\/i=5\/i=6\/i=7:=by omega
 have low:∀x,0<=x->x<18446744073709551616->∃y,Nu x 32=some y/\IntKind.wrap .u32 y=x % 4294967296:=fun x hx hx' =>⟨_,Z7 x hx hx',QH (by omega) (by omega)⟩
 have fin:∀p q:Nat,∀n:Int,QR k n=some (rotl k p q)->UD k i=AY XJ (.b1 (rotl k p q))->Int.tmod (Af ((11:Int)*(Int.tmod i (64:Int)))) (64:Int)=n ->
   ∃lo,(0<=lo/\lo<4294967296)/\UD k i=some lo/\∃x,QR k (Int.tmod (Af ((11:Int)*(Int.tmod i (64:Int)))) (64:Int))=some x/\∃y,Nu x 32=some y/\IntKind.wrap .u32 y=lo:=fun p q n h1 h2 h3=>by
  have hb:0<=rotl k p q/\rotl k p q<18446744073709551616:=b64 _ _ _
  obtain⟨y,hy,hy'⟩:=low _ hb.1 hb.2
  exact⟨rotl k p q % 4294967296,by omega,by rw [h2,key _ hb.1 hb.2],_,by rw [h3];exact h1,y,hy,hy'⟩
 rcases hi with rfl|rfl|rfl|rfl|rfl|rfl|rfl|rfl
 ·refine fin 0 64 0 ((AU _ _).trans rfl) ?_ rfl
  rw [rotl0 k h h']
  exact(AU _ _).trans rfl
 ·exact fin 11 53 11 ((AU _ _).trans rfl) ((AU _ _).trans rfl) rfl
 ·exact fin 22 42 22 ((AU _ _).trans rfl) ((AU _ _).trans rfl) rfl
 ·exact fin 33 31 33 ((AU _ _).trans rfl) ((AU _ _).trans rfl) rfl
 ·exact fin 44 20 44 ((AU _ _).trans rfl) ((AU _ _).trans rfl) rfl
 ·exact fin 55 9 55 ((AU _ _).trans rfl) ((AU _ _).trans rfl) rfl
 ·exact fin 2 62 2 ((AU _ _).trans rfl) ((AU _ _).trans rfl) rfl
 ·exact fin 13 51 13 ((AU _ _).trans rfl) ((AU _ _).trans rfl) rfl
theorem turn7 (x:Int):Nq x 7=Mc x 7:=by
 rw [show Nq x 7=_ from AU _ _,show Mc x 7=_ from AU _ _]
 rfl
theorem Zl6 (x:Int):Nq x 16=Mc x 16:=by
 rw [show Nq x 16=_ from AU _ _,show Mc x 16=_ from AU _ _]
 rfl
theorem ZhT (k:Int) (h:0<=k) (h' : k<18446744073709551616) (i:Int) (h0:0<=i) (h8:i<8) (a:Int):jF k i a=TM k i a:=by
 obtain⟨lo,hlo,h1,x,h2,y,h3,h4⟩:=ZlL k h h' i h0 h8
 refine via ((Mc (IntKind.wrap .u32 (a+lo)) 7).bind fun x2=>(Mc lo 16).bind fun x3=>some (bits .xor .u32 (IntKind.wrap .u32 (x2*(2654435761:Int))) x3)) ((AU _ _).trans ?_) ((AU _ _).trans ?_)
 ·simp only [Z0I,DN,h1,Option.bind_some]
  rfl
 ·simp only [gG,DN,h2,h3,h4,Option.bind_some,turn7,Zl6]
  rfl
theorem Zlj (k:Int) (h:0<=k) (h' : k<18446744073709551616):∀(n:Nat) (i l r:Int),0<=i->8 - i<=n->0<=l->l<4294967296->0<=r->r<4294967296->AY Qj (.b1 k l r i)=AY G5 (.b1 k i ⟨l,r⟩):=by
 have fin:∀i l r:Int,¬i<8->0<=l->l<4294967296->0<=r->r<4294967296->AY Qj (.b1 k l r i)=AY G5 (.b1 k i ⟨l,r⟩):=fun i l r hi hl hl' hr hr' =>by
  refine via (some (l*4294967296+r)) ((AU _ _).trans ?_) ((AU _ _).trans ?_)
  ·simp only [Qj,DN]
   rw [decide_eq_false hi,wu64 (n:=l) (by omega) (by omega),wu64 (n:=r) (by omega) (by omega),wu64 (n:=l*4294967296) (by omega) (by omega),wu64 (by omega) (by omega)]
   rfl
  ·simp only [G5,DN]
   rw [decide_eq_false hi]
   simp only [cond_false]
   rw [show TF ⟨l,r⟩=some (l*4294967296+r) from(AU _ _).trans (by
    simp only [Vo,DN]
    rw [wu64 (n:=l) (by omega) (by omega),wu64 (n:=r) (by omega) (by omega),show (2:Int) ^ (32:Nat)=4294967296 from rfl,wu64 (n:=l*4294967296) (by omega) (by omega)]
    rw [bits_join .u64 64 (by decide) wraps_u64 32 (l*4294967296) r (by omega) (by omega) (by omega) hr (by omega) (by omega)])]
   rfl
 intro n
 induction n with
 | zero=>intro i l r h0 h8 hl hl' hr hr';exact fin i l r (by omega) hl hl' hr hr'
 | succ n ih=>
  intro i l r h0 h8 hl hl' hr hr'
  by_cases hi:i<8
  ·refine via ((TM k i r).bind fun x=>AY G5 (.b1 k (Af (i+1)) ⟨r,bits .xor .u32 l x⟩)) ((AU _ _).trans ?_) ((AU _ _).trans ?_)
   ·simp only [Qj,DN]
    rw [decide_eq_true hi,ZhT k h h' i h0 hi]
    simp only [cond_true]
    congr 1
    funext x
    have hx:=b32 .xor l x
    rw [FU (by omega) (by omega)]
    exact ih (i+1) r (bits .xor .u32 l x) (by omega) (by omega) hr hr' hx.1 hx.2
   ·simp only [G5,DN]
    rw [decide_eq_true hi]
    rfl
  ·exact fin i l r hi hl hl' hr hr'
theorem e_Mix (k x:Int) (h:0<=k) (h' : k<18446744073709551616) (hx:0<=x) (hx' : x<18446744073709551616):UC k x=KH k x:=by
 refine via (AY G5 (.b1 k 0 ⟨x / 4294967296,x % 4294967296⟩)) ((AU _ _).trans ?_) ((AU _ _).trans ?_)
 ·simp only [Qj,DN]
  rw [Int.tdiv_eq_ediv_of_nonneg hx,Int.tmod_eq_emod_of_nonneg hx,wu64 (n:=x / 4294967296) (by omega) (by omega),QH (n:=x / 4294967296) (by omega) (by omega),QH (n:=x % 4294967296) (by omega) (by omega)]
  exact Zlj k h h' 8 0 _ _ (by omega) (by omega) (by omega) (by omega) (by omega) (by omega)
 ·simp only [G5,DN]
  rw [show WJ x=some ⟨x / 4294967296,x % 4294967296⟩ from(AU _ _).trans (by
   simp only [gK,DN,Z7 x hx hx',Option.bind_some]
   rw [Int.fdiv_eq_ediv_of_nonneg _ (by decide),show (2:Int) ^ (32:Nat)=4294967296 from rfl,QH (n:=x / 4294967296) (by omega) (by omega),QH (n:=x % 4294967296) (by omega) (by omega)])]
  rfl
noncomputable def O5 (k x:Int):Int:=(KH k x).getD 0
theorem Yb (k x:Int):KH k x=some (O5 k x):=by
 obtain⟨r,hr⟩:=Z4w k x
 rw [O5,hr]
 rfl
theorem ZfF (k:Int):∀(n:Nat) (i:Int) (h:Hf) (r:Int),0<=i->8 - i<=n->AY G5 (.b1 k i h)=some r->0<=r/\r<18446744073709551616:=by
 have fin:∀(i:Int) (h:Hf) (r:Int),¬i<8->AY G5 (.b1 k i h)=some r->0<=r/\r<18446744073709551616:=fun i h r hi hr=>by
  rw [AU] at hr
  simp only [G5,DN] at hr
  rw [decide_eq_false hi,show TF h=_ from AU _ _] at hr
  simp only [Vo,DN,cond_false,Option.bind_some,Option.some.injEq] at hr
  rw [<- hr]
  exact b64 _ _ _
 intro n
 induction n with
 | zero=>intro i h r h0 h8 hr;exact fin i h r (by omega) hr
 | succ n ih=>
  intro i h r h0 h8 hr
  by_cases hi:i<8
  ·rw [AU] at hr
   simp only [G5,DN] at hr
   rw [decide_eq_true hi,FU (by omega) (by omega)] at hr
   simp only [cond_true] at hr
   obtain⟨x,_,hx⟩:=Option.bind_eq_some_iff.1 hr
   exact ih _ _ _ (by omega) (by omega) hx
  ·exact fin i h r hi hr
theorem Z3m (k x:Int):0<=O5 k x/\O5 k x<18446744073709551616:=by
 have h:=Yb k x
 rw [show KH k x=_ from AU _ _] at h
 simp only [G5,DN] at h
 obtain⟨y,_,hy⟩:=Option.bind_eq_some_iff.1 h
 exact ZfF k 8 0 y _ (by omega) (by omega) hy
def DI (k:Int):Prop:=0<=k/\k<18446744073709551616
theorem Z2q (k x:Int) (h:DI k) (hx:DI x):UC k x=some (O5 k x):=(e_Mix k x h.1 h.2 hx.1 hx.2).trans (Yb k x)
theorem X6 {R α β:Type} (F:List β->Int->Option R) (xs:List α) (f:α->List β) (fin:List β->Option R) (B:Nat)
  (hstep:∀(i:Nat) s (h:i<xs.length),s.length+(f xs[i]).length<=B->F s i=F (s++f xs[i]) ((i+1:Nat):Int))
  (hfin:∀s,F s (xs.length:Int)=fin s) (s:List β) (h0:s.length+(xs.flatMap f).length<=B):F s 0=fin (s++xs.flatMap f):=by
 have key:=Z1D F xs (fun s x=>s++f x) fin (fun i s=>s.length+((xs.drop i).flatMap f).length<=B)
  (fun i s h hi=>by
   simp only [List.drop_eq_getElem_cons h,List.flatMap_cons,List.length_append] at hi
   exact⟨hstep i s h (by omega),by simp only [List.length_append];omega⟩)
  (fun s _=>hfin s) s (by simpa using h0)
 rw [key.1,Zet]
theorem RV (ls:List (List Int)) (h:ls.flatten.length<=100000) (hl:ls.length<=100000):MR ls=some ls.flatten:=(AU _ _).trans (by
 simp only [TS,DN,SL,SM]
 have:=X6 (fun s i=>AY TS (.b1 s ls ls.length i)) ls id some 100000 (fun i s hi hs=>(AU _ _).trans (by
   simp only [id] at hs
   simp(disch:=omega) only [TS,hi,id,DN,SL,SM]))
  (fun s=>(AU _ _).trans (by simp only [TS,Int.lt_irrefl,DN,SL,SM])) [] (by simpa [List.flatMap_id] using h)
 simpa [List.flatMap_id] using this)
theorem Zip (n:Int) (h:1<=n) (h' : n<=8):fK n=some true:=(AU _ _).trans (by
 simp only [zL,DN,decide_eq_true (show n>=1 from h),decide_eq_true h',cond_true])
theorem Yu (j:Nat):(2:Int) ^ (8*j)=256 ^ j:=by rw [Int.pow_mul];rfl
theorem sh8 (v:Int) (j:Nat) (hj:j<=8):Int.fdiv v (2 ^ (min (Int.toNat (Af ((8:Int)*(j:Int)))) (IntKind.bits .u64)))=v / 256 ^ j:=by
 rw [FU (by omega) (by omega),show Int.toNat (8*(j:Int))=8*j by omega,show min (8*j) (IntKind.bits .u64)=8*j from Nat.min_eq_left (by show 8*j<=64;omega),Yu,Int.fdiv_eq_ediv_of_nonneg _ (Int.le_of_lt (by exact_mod_cast Nat.pow_pos (by decide)))]
theorem put3 (fs:List D7) (s:List Int) (n:Int) (i m:Nat) (x:D7) (hm:m<=8) (hs:s.length<=1000) (hi:i<=1000):∀(d j:Nat),j+d=m ->
  AY JV (.b3 (s++num j x.Value) fs n i m j x)=AY JV (.b1 (s++num m x.Value) fs n ((i+1:Nat):Int)):=by
 intro d
 induction d with
 | zero=>
  intro j hj
  obtain rfl:j=m:=by omega
  refine(AU _ _).trans ?_
  simp(disch:=omega) only [JV,Int.lt_irrefl,DN,SL,SM]
 | succ d ih=>
  intro j hj
  rw [<- ih (j+1) (by omega),oN,<- List.append_assoc]
  refine(AU _ _).trans ?_
  have hjm:j<m:=by omega
  have h0:decide (0<=Af (8*(j:Int)))=true:=decide_eq_true (by rw [FU (by omega) (by omega)];omega)
  have hl:=Dw j x.Value
  simp(disch:=omega) only [JV,hjm,h0,sh8,IntKind.wrap_u8,hl,DN,SL,SM]
def Ug (f:D7):List Int:=num f.Size.toNat f.Value
theorem Z4v (fs:List D7) (hf:∀f∈fs,1<=f.Size/\f.Size<=8/\0<=f.Value/\f.Value<256 ^ f.Size.toNat) (hl:(fs.flatMap Ug).length<=1000) (hn:fs.length<=1000) :
  TW fs=some (fs.flatMap Ug,0):=(AU _ _).trans (by
 simp only [JV,DN,SL,SM]
 have:=X6 (fun s i=>AY JV (.b1 s fs fs.length i)) fs Ug (fun s=>some (s,0)) 1000 (fun i s hi hs=>(AU _ _).trans (by
   obtain⟨h1,h8,h0,hv⟩:=hf fs[i] (List.getElem_mem hi)
   simp(disch:=omega) only [JV,hi,Zip _ h1 h8,DN,SL,SM]
   have key:AY JV (.b2 s fs fs.length i fs[i])=AY JV (.b1 (s++Ug fs[i]) fs fs.length ((i+1:Nat):Int)):=by
    refine(AU _ _).trans ?_
    simp(disch:=omega) only [JV,DN,SL,SM]
    have:=put3 fs s fs.length i fs[i].Size.toNat fs[i] (by omega) (by omega) (by omega) fs[i].Size.toNat 0 (by omega)
    simp only [num,List.append_nil] at this
    rw [show ((fs[i].Size.toNat:Nat):Int)=fs[i].Size by omega] at this
    exact this
   by_cases hs8:fs[i].Size<8
   ·have e:=sh8 fs[i].Value fs[i].Size.toNat (by omega)
    rw [show ((fs[i].Size.toNat:Nat):Int)=fs[i].Size by omega,Int.ediv_eq_zero_of_lt h0 hv] at e
    rw [e,decide_eq_true hs8,show decide (0<=Af (8*fs[i].Size))=true from decide_eq_true (by rw [FU (by omega) (by omega)];omega)]
    exact key
   ·rw [decide_eq_false hs8]
    exact key))
  (fun s=>(AU _ _).trans (by simp only [JV,Int.lt_irrefl,DN,SL,SM])) [] (by simpa using hl)
 simpa using this)
theorem jS {α:Type} (f:α->List Int) (c:Nat) (xs:List α) (h:∀x∈xs,(f x).length=c):(xs.flatMap f).length=c*xs.length:=by
 induction xs with
 | nil=>simp
 | cons x xs ih=>
  rw [List.flatMap_cons,List.length_append,h x List.mem_cons_self,ih fun y hy=>h y (List.mem_cons_of_mem _ hy),List.length_cons,Nat.mul_succ]
  omega
theorem Zis (xs:List Int) (hx:∀x∈xs,DI x) (hl:xs.length<=100):jB xs=some (xs.flatMap (num 8)):=(AU _ _).trans (by
 simp only [Tf,DN,SL,SM]
 have:=X6 (fun s i=>AY Tf (.b1 s xs xs.length i)) xs (fun x=>[(⟨8,x⟩:D7)]) (fun s=>(TW s).bind fun r=>some r.1) 1000 (fun i s hi hs=>(AU _ _).trans (by
   simp only [List.length_cons,List.length_nil] at hs
   simp(disch:=omega) only [Tf,hi,DN,SL,SM]))
  (fun s=>(AU _ _).trans (by simp only [Tf,Int.lt_irrefl,DN,SL,SM];rfl)) [] (by
   rw [show (xs.flatMap fun x=>[(⟨8,x⟩:D7)])=xs.map fun x=>(⟨8,x⟩:D7) from(List.map_eq_flatMap).symm];simp;omega)
 refine this.trans ?_
 rw [List.nil_append,show (xs.flatMap fun x=>[(⟨8,x⟩:D7)])=xs.map fun x=>(⟨8,x⟩:D7) from(List.map_eq_flatMap).symm]
 have e:(xs.map fun x=>(⟨8,x⟩:D7)).flatMap Ug=xs.flatMap (num 8):=by rw [List.flatMap_map];rfl
 rw [Z4v _ (fun f hf=>by
  obtain⟨x,hx',rfl⟩:=List.mem_map.1 hf
  exact⟨show (1:Int)<=8 by decide,show (8:Int)<=8 by decide,(hx x hx').1,(hx x hx').2⟩) (by rw [e,jS _ 8 _ fun x _=>Dw 8 x];omega) (by simp;omega),e]
 rfl)
theorem Zkx (m:Nat) (hm:m<=100) (v:Int) (h:DI v):∀(d j:Nat),j+d=m->AY UG (.b1 m (v / 256 ^ j) (num j v) j)=some ⟨num m v⟩:=by
 intro d
 induction d with
 | zero=>
  intro j hj
  obtain rfl:j=m:=by omega
  refine(AU _ _).trans ?_
  simp(disch:=omega) only [UG,Int.lt_irrefl,DN,SL,SM]
 | succ d ih=>
  intro j hj
  have p:(0:Int)<256 ^ j:=by exact_mod_cast Nat.pow_pos (by decide)
  have q:0<=v / 256 ^ j:=Int.ediv_nonneg h.1 (Int.le_of_lt p)
  have q' : v / 256 ^ j<18446744073709551616:=Int.lt_of_le_of_lt (Int.ediv_le_self _ h.1) h.2
  have hjm:j<m:=by omega
  have hl:=Dw j v
  rw [<- ih (j+1) (by omega),oN]
  refine(AU _ _).trans ?_
  simp(disch:=omega) only [UG,hjm,hl,Int.tmod_eq_emod_of_nonneg q,Int.tdiv_eq_ediv_of_nonneg q,DN,SL,SM]
  rw [wu8 (by omega) (by omega),wu64 (by omega) (by omega),Int.ediv_ediv_of_nonneg (by omega),Int.pow_succ]
theorem tH (m:Nat) (hm:m<=100) (v:Int) (h:DI v):OI m v=some ⟨num m v⟩:=(AU _ _).trans (by
 simp only [UG,DN,SL,SM]
 have:=Zkx m hm v h m 0 (by omega)
 simpa [num] using this)
theorem ZfU (xs:List Int) (hb:Bytes xs) (hl:xs.length<=8):∀n:Nat,n<=xs.length->AY MW (.b1 xs (val (xs.drop n)) ((n:Int) - 1))=some (val xs):=by
 intro n
 induction n with
 | zero=>
  intro _
  refine(AU _ _).trans ?_
  simp only [MW,DN]
  rw [show decide (((0:Nat):Int) - 1>=0)=false from rfl]
  simp
 | succ n ih=>
  intro hn
  have hd:val (xs.drop n)=xs[n]+256*val (xs.drop (n+1)):=by rw [List.drop_eq_getElem_cons (show n<xs.length by omega)];rfl
  have h1:=qJ (hb.drop n) (by rw [List.length_drop];omega)
  have h2:=qJ (hb.drop (n+1)) (by rw [List.length_drop];omega)
  have h3:=hb.get n (by omega)
  refine(AU _ _).trans ?_
  simp only [MW,DN]
  rw [show ((n+1:Nat):Int) - 1=(n:Int) by omega,show decide ((n:Int)>=0)=true from decide_eq_true (by omega),show decide (0<=(n:Int)/\(n:Int)<(xs.length:Int))=true from decide_eq_true (by omega)]
  simp only [cond_true,Int.toNat_natCast,List.getElem?_eq_getElem (show n<xs.length by omega),Option.bind_some]
  rw [wu64 (n:=val (xs.drop (n+1))*256) (by omega) (by omega),wu64 (n:=xs[n]) (by omega) (by omega),wu64 (by omega) (by omega),FU (by omega) (by omega),show val (xs.drop (n+1))*256+xs[n]=val (xs.drop n) by omega]
  exact ih (by omega)
theorem ZhC (xs:List Int) (hb:Bytes xs) (hl:xs.length<=8):Qa xs=some (val xs):=(AU _ _).trans (by
 simp only [MW,DN]
 have:=ZfU xs hb hl xs.length (Nat.le_refl _)
 rw [List.drop_of_length_le (Nat.le_refl _)] at this
 rw [FU (by omega) (by omega)]
 exact this)
def Ym (xs:List Int) (g:Nat):Int:=val ((xs.drop (8*g)).take 8)
theorem Zg6 (ys:List Int) (hb:Bytes ys) (hl:ys.length<=8):∀m:Nat,m<=ys.length->IZ ys m=val (ys.take m):=by
 intro m
 induction m with
 | zero=>intro _;simp [IZ,val]
 | succ m ih=>
  intro hm
  have hx:=hb.get m (by omega)
  have hv:=Z3O (hb.take m)
  have hv2:=qJ (hb.take (m+1)) (by rw [List.length_take];omega)
  have e:val (ys.take (m+1))=val (ys.take m)+256 ^ m*ys[m]:=by
   rw [List.take_add_one,List.getElem?_eq_getElem (show m<ys.length by omega),val_append]
   simp [val,Nat.min_eq_left (show m<=ys.length by omega)]
  rw [List.length_take,Nat.min_eq_left (by omega)] at hv
  rw [e] at hv2
  have hnn:0<=256 ^ m*ys[m]:=Int.mul_nonneg (Int.le_of_lt (by exact_mod_cast Nat.pow_pos (by decide))) hx.1
  rw [e,IZ,ih (by omega),List.getElem?_eq_getElem (show m<ys.length by omega),Option.getD_some,Yu,Int.mul_comm ys[m],wu64 hnn (by omega)]
  refine Z4J .u64 64 (by decide) wraps_u64 (8*m) (by omega) _ _ hnn ?_ (by show _<(18446744073709551616:Int);omega) hv.1 ?_
  ·rw [Yu];exact Int.mul_emod_right _ _
  ·rw [Yu];exact hv.2
theorem Zfh (xs:List Int) (hb:Bytes xs) (g:Nat):Ht xs g=Ym xs g:=by
 unfold Ht Ym
 rw [Zg6 _ ((hb.drop _).take _) (by rw [List.length_take];omega) _ (Nat.le_refl _),List.take_of_length_le (Nat.le_refl _)]
noncomputable def QE (k:Int) (xs:List Int) (m g:Nat) (s:Int):Int:=(List.range' g m).foldl (fun s g=>O5 k (bits .xor .u64 s (Ym xs g))) s
noncomputable def VN (k:Int) (xs:List Int):Int:=QE k xs (gN xs) 0 (O5 k xs.length)
theorem ZjA (k:Int) (xs:List Int):∀m g s,DI s->DI (QE k xs m g s):=by
 intro m
 induction m with
 | zero=>intro g s h;exact h
 | succ m ih=>
  intro g s h
  rw [QE,List.range'_succ]
  exact ih (g+1) _ (Z3m _ _)
theorem Zir (k:Int) (xs:List Int):DI (VN k xs):=ZjA _ _ _ _ _ (Z3m _ _)
theorem v_Tag (k:Int) (xs:List Int) (hb:Bytes xs) (hl:xs.length<=100000):XT k xs=some (VN k xs):=by
 have key:∀(l:List Nat) (s:Int),l.foldlM (fun s g=>KH k (bits .xor .u64 s (Ht xs g))) s=some (l.foldl (fun s g=>O5 k (bits .xor .u64 s (Ym xs g))) s):=by
  intro l
  induction l with
  | nil=>intro s;rfl
  | cons g l ih=>
   intro s
   rw [List.foldlM_cons,Yb,Zfh xs hb]
   exact ih _
 unfold XT SC VN QE
 rw [if_pos (by omega),Yb,Option.bind_some,key,List.range_eq_range']
theorem Zdu (k:Int) (hk:DI k) (xs:List Int) (hb:Bytes xs) (hl:xs.length<=100000):∀(m g:Nat) (s:Int),m+g=gN xs->AY UA (.b1 k xs s ((8*g:Nat):Int))=some (QE k xs m g s):=by
 intro m
 induction m with
 | zero=>
  intro g s hg
  unfold gN at hg
  refine(AU _ _).trans ?_
  simp(disch:=omega) only [UA,DN,SL,SM]
  rfl
 | succ m ih=>
  intro g s hg
  have hg' :=hg
  unfold gN at hg
  have hlt:8*g<xs.length:=by omega
  refine(AU _ _).trans ?_
  have e1:(if (↑xs.length:Int)<(Af (((8*g:Nat):Int)+8)) then (↑xs.length:Int) else (Af (((8*g:Nat):Int)+8)))=((min (8*g+8) xs.length:Nat):Int):=by
   rw [FU (by omega) (by omega)];split<;>omega
  have e2:(xs.drop (8*g)).take (min (8*g+8) xs.length - 8*g)=(xs.drop (8*g)).take 8:=by
   by_cases h:8*g+8<=xs.length
   ·rw [Nat.min_eq_left h,show 8*g+8 - 8*g=8 by omega]
   ·rw [List.take_of_length_le (by rw [List.length_drop];omega),List.take_of_length_le (by rw [List.length_drop];omega)]
  simp only [UA,DN,e1]
  rw [decide_eq_true (show ((8*g:Nat):Int)<(xs.length:Int) by omega),decide_eq_true (show (0:Int)<=((min (8*g+8) xs.length:Nat):Int)/\((min (8*g+8) xs.length:Nat):Int)<=(xs.length:Int) by omega)]
  simp only [Int.toNat_natCast]
  rw [decide_eq_true (show (0:Int)<=((8*g:Nat):Int)/\((8*g:Nat):Int)<=((min (8*g+8) xs.length:Nat):Int) by omega),e2,ZhC _ ((hb.drop _).take _) (by rw [List.length_take];omega)]
  simp only [cond_true,Option.bind_some]
  rw [Z2q k _ hk (b64 _ _ _),Option.bind_some,FU (by omega) (by omega),show ((8*g:Nat):Int)+8=((8*(g+1):Nat):Int) by omega,ih (g+1) _ (by omega)]
  rw [QE,QE,List.range'_succ]
  rfl
theorem Zee (k:Int) (hk:DI k) (xs:List Int) (hb:Bytes xs) (hl:xs.length<=100000):UE k xs=some (VN k xs):=(AU _ _).trans (by
 simp only [UA,DN]
 rw [wu64 (by omega) (by omega),Z2q k _ hk ⟨by omega,by omega⟩,Option.bind_some]
 exact Zdu k hk xs hb hl (gN xs) 0 _ (by omega))
def lab (st:ByteArray):List Int:=st.data.toList.map fun b=>(b.toNat:Int)
theorem Z3h (st:ByteArray):YX U 5 st=true:=List.all_eq_true.2 fun b _=>rfl
theorem Z1x (st:ByteArray):JX U 5 st=lab st:=by
 unfold JX lab
 induction st.data.toList with
 | nil=>rfl
 | cons b l ih=>exact congrArg (List.cons ((b.toNat:Nat):Int)) ih
theorem Z28 (st:ByteArray):Bytes (lab st):=fun x hx=>by
 obtain⟨b,_,rfl⟩:=List.mem_map.1 hx
 have:b.toNat<256:=b.toNat_lt
 omega
theorem Z39 (st:ByteArray):(lab st).length=st.size:=by rw [lab,List.length_map,Array.length_toList];rfl
theorem Z1H (l:List Int) (n:Nat):Bytes (l.flatMap (num n)):=Bytes.flat _ _ fun x _=>Zer n x
theorem Z11:Bytes [0]:=Bytes.cons ⟨by decide,by decide⟩ Bytes.nil
noncomputable def L9 (k:Int) (st:ByteArray) (parts:List Int):Int:=VN k (lab st++[0]++parts.flatMap (num 8))
theorem XH (k:Int) (st:ByteArray) (parts:List Int):DI (L9 k st parts):=Zir _ _
theorem Z0e (k:Int) (st:ByteArray) (parts:List Int) (hs:st.size<=1000) (hp:∀x∈parts,DI x) (hl:parts.length<=100):Q7 k st parts=some (L9 k st parts):=(AU _ _).trans (by
 have h1:=jS (num 8) 8 parts fun x _=>Dw 8 x
 have h2:=Z39 st
 simp only [Z03,Z3h,Z1x,Zis parts hp hl,DN,SL,SM]
 rw [RV _ (by simp [h1,h2];omega) (by simp)]
 simp only [Option.bind_some,List.flatten_cons,List.flatten_nil,List.append_nil]
 rw [v_Tag k _ ((Z28 st).app (Z11.app (Z1H parts 8))) (by simp [h1,h2];omega)]
 rw [L9,List.append_assoc]
 rfl)
theorem ZV (k:Int) (hk:DI k) (st:ByteArray) (parts:List Int) (hs:st.size<=1000) (hp:∀x∈parts,DI x) (hl:parts.length<=100):Q9 k st parts=some (L9 k st parts):=(AU _ _).trans (by
 have h1:=jS (num 8) 8 parts fun x _=>Dw 8 x
 have h2:=Z39 st
 simp(disch:=omega) only [TY,Z3h,Z1x,DN,SL,SM]
 have:=X6 (fun s i=>AY TY (.b1 k parts s i)) parts (num 8) (fun s=>UE k s) 5000 (fun i s hi hs=>(AU _ _).trans (by
   have hx:=hp parts[i] (List.getElem_mem hi)
   rw [Dw] at hs
   have h8:OI 8 parts[i]=some ⟨num 8 parts[i]⟩:=tH 8 (by decide) _ hx
   simp(disch:=omega) only [TY,hi,h8,Dw,DN,SL,SM]))
  (fun s=>(AU _ _).trans (by
   simp only [TY,Int.lt_irrefl,DN,SL,SM]
   cases UE k s<;>rfl)) (lab st++[0]) (by rw [List.length_append,List.length_cons,List.length_nil,h1,h2];omega)
 refine this.trans ?_
 rw [Zee k hk _ (((Z28 st).app Z11).app (Z1H parts 8)) (by simp [h1,h2];omega)]
 rfl)
def U32 (x:Int):Prop:=0<=x/\x<4294967296
def Np (x:Int):Prop:=0<=x/\x<65536
theorem Z4z {x:Int} (h:Np x):[(IntKind.wrap .u8 (x)),(IntKind.wrap .u8 ((Int.fdiv x (2 ^ (8:Nat)))))]=num 2 x:=by
 have h1:=h.1
 have h2:=h.2
 rw [Int.fdiv_eq_ediv_of_nonneg _ (by decide),IntKind.wrap_u8,IntKind.wrap_u8]
 rfl
theorem aA (x:Int) (k:Nat):Int.fdiv x (2 ^ k)=x / 2 ^ k:=Int.fdiv_eq_ediv_of_nonneg _ (Int.le_of_lt (Int.pow_pos (by decide)))
theorem tdn {x:Int} (h:0<=x) (n:Int):Int.tdiv x n=x / n:=Int.tdiv_eq_ediv_of_nonneg h
theorem Yw {x:Int} (h:0<=x) (n:Int):Int.tmod x n=x % n:=Int.tmod_eq_emod_of_nonneg h
theorem UI {x:Int} (h:DI x) (k:Nat) (hk:k<=63):bits .and .u64 x (2 ^ k - 1)=x % 2 ^ k:=by
 obtain⟨n,rfl⟩:=Int.eq_ofNat_of_zero_le h.1
 have hp:(2:Int) ^ k - 1=((2 ^ k - 1:Nat):Int):=by
  have:1<=2 ^ k:=Nat.one_le_two_pow
  rw [Int.ofNat_sub this]
  simp
 have hb:2 ^ k<=2 ^ 63:=Nat.pow_le_pow_right (by decide) hk
 rw [hp,u64_and_nat _ _ (by have:=h.2;omega) (by omega),Nat.and_two_pow_sub_one_eq_mod]
 simp
def O3 (c:Gv):Int:=if c.He < -500\/c.He>500\/c.Start<0\/c.Start>1099511627776 then 5 else 0
theorem Z3w (x lo hi:Int) (h:lo<=hi):(x != (if hi<(if lo>x then lo else x) then hi else (if lo>x then lo else x)))=decide (x<lo\/x>hi):=by
 by_cases a:x<lo
 ·rw [decide_eq_true (show x<lo\/x>hi from .inl a),if_pos (show lo>x from a),if_neg (show ¬hi<lo by omega),bne_iff_ne];omega
 ·rw [if_neg (show ¬lo>x from a)]
  by_cases b:x>hi
  ·rw [if_pos (show hi<x from b),decide_eq_true (show x<lo\/x>hi from .inr b),bne_iff_ne];omega
  ·rw [if_neg (show ¬hi<x from b),decide_eq_false (show ¬(x<lo\/x>hi) by omega)];simp
theorem Z96 (c:Gv):fU c=some (O3 c):=(AU _ _).trans (by
 have e:∀a b d,WH a b d=some (if d<(if b>a then b else a) then d else (if b>a then b else a)):=fun a b d=>(AU _ _).trans rfl
 simp only [ZQ,DN,e,Option.bind_some,O3,Z3w c.He (-500) 500 (by decide),Z3w c.Start 0 1099511627776 (by decide)]
 by_cases h1:c.He < -500\/c.He>500
 ·rw [decide_eq_true h1,if_pos (h1.elim Or.inl fun k=>.inr (.inl k))];rfl
 ·rw [decide_eq_false h1,cond_false]
  by_cases h2:c.Start<0\/c.Start>1099511627776
  ·rw [decide_eq_true h2,if_pos (Or.inr (.inr h2))];rfl
  ·rw [decide_eq_false h2,if_neg (fun k=>k.elim (fun k=>h1 (.inl k)) fun k=>k.elim (fun k=>h1 (.inr k)) h2)];rfl)
theorem Zc5 (c:Gv):jE c=some (O3 c):=(AU _ _).trans (by
 simp only [Z0u,DN,O3]
 by_cases h1:c.He < -500
 ·rw [decide_eq_true h1,if_pos (.inl h1)];rfl
 ·by_cases h2:c.He>500
  ·rw [decide_eq_false h1,decide_eq_true h2,if_pos (.inr (.inl h2))];rfl
  ·by_cases h3:c.Start<0
   ·rw [decide_eq_false h1,decide_eq_false h2,decide_eq_true h3,if_pos (.inr (.inr (.inl h3)))];rfl
   ·by_cases h4:c.Start>1099511627776
    ·rw [decide_eq_false h1,decide_eq_false h2,decide_eq_false h3,decide_eq_true h4,if_pos (.inr (.inr (.inr h4)))];rfl
    ·rw [decide_eq_false h1,decide_eq_false h2,decide_eq_false h3,decide_eq_false h4,if_neg (by omega)];rfl)
def H5 (f:GZ):Int:=if f.IO<0\/f.IO>=5 then 5 else 0
theorem Z8M (f:GZ):fE f=some (H5 f):=(AU _ _).trans (by
 simp only [zV,DN,H5]
 by_cases h1:f.IO<0
 ·rw [decide_eq_true h1,if_pos (.inl h1)];rfl
 ·by_cases h2:f.IO>=5
  ·rw [decide_eq_false h1,decide_eq_true h2,if_pos (.inr h2)];rfl
  ·rw [decide_eq_false h1,decide_eq_false h2,if_neg (by omega)];rfl)
theorem Zb1 (f:GZ):kD f=some (H5 f):=(AU _ _).trans (by
 simp only [Z0D,DN,H5]
 by_cases h1:f.IO<0
 ·rw [decide_eq_true h1,if_pos (.inl h1)];rfl
 ·by_cases h2:f.IO>=5
  ·rw [decide_eq_false h1,decide_eq_true (show f.IO>4 by omega),if_pos (.inr h2)];rfl
  ·rw [decide_eq_false h1,decide_eq_false (show ¬f.IO>4 by omega),if_neg (by omega)];rfl)
theorem rC (k:Nat) (hk:k<=63):JU (k:Int)=some (2 ^ k - 1):=(AU _ _).trans (by
 simp only [Z8,DN]
 rw [decide_eq_true (Int.natCast_nonneg k),show min (Int.toNat (k:Int)) (IntKind.bits .u64)=k from Nat.min_eq_left (by simp [IntKind.bits];omega)]
 have h1:(1:Int)<=2 ^ k:=Int.pow_pos (by decide)
 have h2:(2:Int) ^ k<=2 ^ 63:=by exact_mod_cast Nat.pow_le_pow_right (by decide) hk
 have h3:(2:Int) ^ 63=9223372036854775808:=by decide
 have e1:IntKind.wrap .u64 ((2:Int) ^ k)=2 ^ k:=wu64 (by omega) (by omega)
 rw [Int.one_mul,e1,wu64 (show 0<=(2:Int) ^ k - 1 by omega) (by omega)]
 rfl)
theorem oK:JU 22=some 4194303:=rC 22 (by decide)
theorem Zfy:JU 24=some 16777215:=rC 24 (by decide)
theorem Z2D:JU 46=some 70368744177663:=rC 46 (by decide)
def Jq (k:Int):Int:=if k=2 then 3 else if k=3 then 1 else 0
def Ir (a:Aa):Int:=
 if a.Kind<1\/a.Kind>4 then 12 else if a.Bits>=281474976710656 then 5 else if a.Kind=1 then 0
 else if a.Bits / 70368744177664≠Jq a.Kind then 1
 else let n:=if a.Kind=3 then a.Bits % 70368744177664 / 16777216 else a.Bits % 70368744177664
  if n=0 then 1 else if n=(if a.Kind=3 then 4194303 else 70368744177663) then 1 else 0
theorem ZlI (a:Aa) (h:DI a.Bits):eY a=some (if a.Kind=3 then (a.Bits % 70368744177664 / 16777216,22) else (a.Bits % 70368744177664,46)):=(AU _ _).trans (by
 simp only [zT,DN,oK,Z2D,Option.bind_some,aA]
 by_cases h3:a.Kind=3
 ·rw [if_pos h3,show (a.Kind==3)=true by simpa using h3,cond_true,show (4194303:Int)=2 ^ 22 - 1 from rfl,UI ⟨by have:=h.1;omega,by have:=h.2;omega⟩ 22 (by decide)]
  have:=h.1
  exact congrArg (fun x=>some (x,(22:Int))) (by omega)
 ·rw [if_neg h3,show (a.Kind==3)=false by simpa using h3,cond_false,show (70368744177663:Int)=2 ^ 46 - 1 from rfl,UI h 46 (by decide)]
  rfl)
theorem Z7C (a:Aa) (h:DI a.Bits):dP a=some (Ir a):=(AU _ _).trans (by
 have e1:1<=a.Kind->a.Kind<=4->AY WA (.b1 a)=some (Ir a):=fun k1 k4=>(AU _ _).trans (by
  simp only [WA,DN,aA,ZlI a h,Option.bind_some,Ir]
  rw [if_neg (show ¬(a.Kind<1\/a.Kind>4) by omega)]
  have hb:=h.1
  by_cases h5:a.Bits>=281474976710656
  ·rw [if_pos h5,show (a.Bits / 2 ^ 48 != 0)=true by rw [bne_iff_ne];omega];rfl
  ·rw [if_neg h5,show (a.Bits / 2 ^ 48 != 0)=false by rw [bne_eq_false_iff_eq];omega,cond_false]
   by_cases k:a.Kind=1
   ·rw [if_pos k,show (a.Kind==1)=true by simpa using k];rfl
   ·rw [if_neg k,show (a.Kind==1)=false by simpa using k,cond_false,decide_eq_true (show 0<=a.Kind/\a.Kind<5 by omega),cond_true]
    rw [show ([0,0,3,1,0]:List Int)[a.Kind.toNat]? = some (Jq a.Kind) by
     have hk:a.Kind=2\/a.Kind=3\/a.Kind=4:=by omega
     rcases hk with hk|hk|hk<;>rw [hk]<;>rfl]
    simp only [Option.bind_some]
    by_cases hp:a.Bits / 70368744177664=Jq a.Kind
    ·rw [if_neg (show ¬a.Bits / 70368744177664≠Jq a.Kind from fun c=>c hp),show (a.Bits / 2 ^ 46 != Jq a.Kind)=false by rw [bne_eq_false_iff_eq];exact hp,cond_false]
     by_cases h3:a.Kind=3
     ·simp only [if_pos h3,oK,Option.bind_some]
      by_cases n0:a.Bits % 70368744177664 / 16777216=0
      ·rw [n0];rfl
      ·rw [if_neg n0,show (a.Bits % 70368744177664 / 16777216==0)=false by simpa using n0,cond_false]
       by_cases n1:a.Bits % 70368744177664 / 16777216=4194303
       ·rw [n1];rfl
       ·rw [if_neg n1,show (a.Bits % 70368744177664 / 16777216==4194303)=false by simpa using n1];rfl
     ·simp only [if_neg h3,Z2D,Option.bind_some]
      by_cases n0:a.Bits % 70368744177664=0
      ·rw [n0];rfl
      ·rw [if_neg n0,show (a.Bits % 70368744177664==0)=false by simpa using n0,cond_false]
       by_cases n1:a.Bits % 70368744177664=70368744177663
       ·rw [n1];rfl
       ·rw [if_neg n1,show (a.Bits % 70368744177664==70368744177663)=false by simpa using n1];rfl
    ·rw [if_pos hp,show (a.Bits / 2 ^ 46 != Jq a.Kind)=true by rw [bne_iff_ne];exact hp];rfl)
 simp only [WA,DN]
 by_cases k0:a.Kind<=0
 ·rw [decide_eq_true k0];simp only [Ir];rw [if_pos (.inl (by omega))];rfl
 ·by_cases k5:a.Kind>=5
  ·rw [decide_eq_false k0,decide_eq_true k5];simp only [Ir];rw [if_pos (.inr (by omega))];rfl
  ·rw [decide_eq_false k0,decide_eq_false k5];exact e1 (by omega) (by omega))
theorem Zg8 (k:Int):iJ k=some (Jq k):=(AU _ _).trans (by
 simp only [ZX,DN,Jq]
 by_cases h2:k=2
 ·rw [h2];rfl
 ·rw [if_neg h2,show (k==2)=false by simpa using h2,cond_false]
  by_cases h3:k=3
  ·rw [h3];rfl
  ·rw [if_neg h3,show (k==3)=false by simpa using h3];rfl)
theorem Zbk (a:Aa) (h:DI a.Bits):jQ a=some (Ir a):=(AU _ _).trans (by
 have hb:=h.1
 have e2:∀n m:Int,AY Qb (.b2 n m a)=some (if a.Bits / 70368744177664≠Jq a.Kind then 1 else if n=0 then 1 else if n=m then 1 else 0):=fun n m=>(AU _ _).trans (by
  simp only [Qb,DN,Zg8,Option.bind_some,tdn hb]
  rw [wu64 (by omega) (by have:=h.2;omega)]
  by_cases hp:a.Bits / 70368744177664=Jq a.Kind
  ·rw [if_neg (fun c=>c hp),show (a.Bits / 70368744177664 != Jq a.Kind)=false by rw [bne_eq_false_iff_eq];exact hp,cond_false]
   by_cases n0:n=0
   ·rw [n0];rfl
   ·rw [if_neg n0,show (n==0)=false by simpa using n0,cond_false]
    by_cases n1:n=m
    ·rw [if_pos n1,show (n==m)=true by simpa using n1];rfl
    ·rw [if_neg n1,show (n==m)=false by simpa using n1];rfl
  ·rw [if_pos hp,show (a.Bits / 70368744177664 != Jq a.Kind)=true by rw [bne_iff_ne];exact hp];rfl)
 have e1:1<=a.Kind->a.Kind<=4->AY Qb (.b1 a)=some (Ir a):=fun k1 k4=>(AU _ _).trans (by
  simp only [Qb,DN,e2,Yw hb,Ir]
  rw [tdn (show 0<=a.Bits % 70368744177664 by omega),wu64 (show 0<=a.Bits % 70368744177664 / 16777216 by omega) (by omega),if_neg (show ¬(a.Kind<1\/a.Kind>4) by omega)]
  by_cases h5:a.Bits>=281474976710656
  ·rw [if_pos h5,decide_eq_true h5];rfl
  ·rw [if_neg h5,decide_eq_false h5,cond_false]
   by_cases k:a.Kind=1
   ·rw [if_pos k,show (a.Kind==1)=true by simpa using k];rfl
   ·rw [if_neg k,show (a.Kind==1)=false by simpa using k,cond_false]
    by_cases h3:a.Kind=3
    ·simp only [if_pos h3];rw [show (a.Kind==3)=true by simpa using h3];rfl
    ·simp only [if_neg h3];rw [show (a.Kind==3)=false by simpa using h3];rfl)
 simp only [Qb,DN]
 by_cases k0:a.Kind<1
 ·rw [decide_eq_true k0];simp only [Ir];rw [if_pos (.inl k0)];rfl
 ·by_cases k5:a.Kind>4
  ·rw [decide_eq_false k0,decide_eq_true k5];simp only [Ir];rw [if_pos (.inr k5)];rfl
  ·rw [decide_eq_false k0,decide_eq_false k5];exact e1 (by omega) (by omega))
def Sm:ByteArray:=⟨#[114,112,97]⟩
def QO:ByteArray:=⟨#[101,112,111,99,104]⟩
noncomputable def Lp (k n:Int):Int:=L9 k Sm [n] % 16777216
theorem Ya {n:Int} (h:DI n):∀x∈[n],DI x:=fun x hx=>by
 cases hx with
 | head=>exact h
 | tail _ hx=>exact nomatch hx
theorem Z8o (k n:Int) (h:DI n):eF k n=some (Lp k n):=(AU _ _).trans (by
 simp only [zW,DN]
 rw [show Q7 k ⟨#[114,112,97]⟩ [n]=some (L9 k Sm [n]) from Z0e k Sm [n] (by decide) (Ya h) (by simp)]
 simp only [Option.bind_some,List.length_cons,List.length_nil,beq_self_eq_true,cond_true]
 rw [show (16777215:Int)=2 ^ 24 - 1 from rfl,UI (XH _ _ _) 24 (by decide)]
 rfl)
theorem Zd0 (k n:Int) (hk:DI k) (h:DI n):kS k n=some (Lp k n):=(AU _ _).trans (by
 simp only [Z1k,DN]
 rw [show Q9 k ⟨#[114,112,97]⟩ [n]=some (L9 k Sm [n]) from ZV k hk Sm [n] (by decide) (Ya h) (by simp)]
 simp only [Option.bind_some,List.length_cons,List.length_nil,beq_self_eq_true,cond_true,Yw (XH k Sm [n]).1]
 rfl)
noncomputable def VD (k n:Int):Aa×Int:=if k=0 then (⟨0,0⟩,17) else if n<1\/n>4194302 then (⟨0,0⟩,5) else (⟨3,70368744177664+n*16777216+Lp k n⟩,0)
theorem Zj2 (n:Int) (h1:1<=n) (h2:n<=4194302):WQ n 22=some n:=(AU _ _).trans (by
 simp only [ZU,DN,oK,Option.bind_some]
 rw [show (4194303:Int)=2 ^ 22 - 1 from rfl,UI ⟨by omega,by omega⟩ 22 (by decide),show n % 2 ^ 22=n by omega,wu64 (by decide) (by decide),if_neg (show ¬(1:Int)>n by omega),if_neg (show ¬(2 ^ 22 - 1 - 1:Int)<n by omega)])
theorem Xz {x y:Int} (i:Nat) (hi:i<=63) (hx:0<=x) (hx' : x<18446744073709551616) (hm:x % 2 ^ i=0) (hy:0<=y) (hy' : y<2 ^ i):bits .or .u64 x y=x+y:=
 bits_join .u64 64 (by decide) (fun n h h' =>wu64 h h') i x y hx hm hx' hy hy' (Int.lt_of_lt_of_le hy' (by exact_mod_cast Nat.pow_le_pow_right (by decide) (show i<=64 by omega)))
theorem ZdU (n h:Int) (h1:1<=n) (h2:n<=4194302) (g:0<=h/\h<16777216):dD 3 (bits .or .u64 (IntKind.wrap .u64 ((IntKind.wrap .u64 n)*2 ^ (24:Nat))) h)=some ⟨3,70368744177664+n*16777216+h⟩:=by
 have hn:IntKind.wrap .u64 n=n:=wu64 (by omega) (by omega)
 rw [hn,wu64 (show 0<=n*2 ^ 24 by omega) (by omega),Xz 24 (by decide) (by omega) (by omega) (by omega) g.1 g.2]
 refine(AU _ _).trans ?_
 simp only [Vu,DN]
 refine(show _=AY Vu (.b2 3 (n*2 ^ 24+h) 3 ⟨0,0⟩) from rfl).trans ((AU _ _).trans ?_)
 simp only [Vu,DN,aA,Zfy]
 rw [show (n*2 ^ 24+h) / 2 ^ 24=n by omega,Zj2 n h1 h2,show ([0,0,3,1,0]:List Int)[(3:Int).toNat]? = some 1 from rfl]
 simp only [Option.bind_some]
 rw [show (16777215:Int)=2 ^ 24 - 1 from rfl,UI ⟨by omega,by omega⟩ 24 (by decide),show (n*2 ^ 24+h) % 2 ^ 24=h by omega]
 rw [wu64 (show 0<=(1:Int)*2 ^ 46 by decide) (by decide),wu64 (show 0<=n*2 ^ 24 by omega) (by omega),Xz (x:=1*2 ^ 46) (y:=n*2 ^ 24) 46 (by decide) (by decide) (by decide) (by decide) (by omega) (by omega),Xz (x:=1*2 ^ 46+n*2 ^ 24) (y:=h) 24 (by decide) (by omega) (by omega) (by omega) g.1 g.2]
 rfl
theorem Z2E (k n:Int):0<=Lp k n/\Lp k n<16777216:=by unfold Lp;omega
theorem Z8t (k n:Int) (hn:U32 n):eH k n=some (VD k n):=(AU _ _).trans (by
 have b1:∀z,AY TK (.b1 z)=some (⟨0,0⟩,5):=fun z=>(AU _ _).trans rfl
 have b2:∀z,1<=n->n<=4194302->AY TK (.b2 k n z)=some (⟨3,70368744177664+n*16777216+Lp k n⟩,0):=fun z h1 h2=>(AU _ _).trans (by
  simp only [TK,DN]
  rw [show IntKind.wrap .u64 n=n from wu64 (by omega) (by omega),Z8o k n ⟨by omega,by omega⟩]
  simp only [Option.bind_some]
  have:=ZdU n (Lp k n) h1 h2 (Z2E k n)
  rw [show IntKind.wrap .u64 n=n from wu64 (by omega) (by omega)] at this
  rw [this]
  rfl)
 simp only [TK,DN,b1,VD]
 by_cases hk:k=0
 ·rw [if_pos hk,show (k==0)=true by simpa using hk];rfl
 ·rw [if_neg hk,show (k==0)=false by simpa using hk,cond_false]
  by_cases h1:n<1
  ·rw [if_pos (.inl h1),decide_eq_true h1];rfl
  ·by_cases h2:n>4194302
   ·rw [if_pos (.inr h2),decide_eq_false h1,decide_eq_true h2];rfl
   ·rw [if_neg (by omega),decide_eq_false h1,decide_eq_false h2,cond_false,cond_false];exact b2 _ (by omega) (by omega))
theorem Zdb (k n:Int) (hk:DI k) (hn:U32 n):kE k n=some (VD k n):=(AU _ _).trans (by
 have b1:∀z,AY Tj (.b1 z)=some (⟨0,0⟩,5):=fun z=>(AU _ _).trans rfl
 have b2:∀z,1<=n->n<=4194302->AY Tj (.b2 k n z)=some (⟨3,70368744177664+n*16777216+Lp k n⟩,0):=fun z h1 h2=>(AU _ _).trans (by
  have g:=Z2E k n
  simp only [Tj,DN]
  rw [show IntKind.wrap .u64 n=n from wu64 (by omega) (by omega),Zd0 k n hk ⟨by omega,by omega⟩]
  simp only [Option.bind_some]
  rw [wu64 (show 0<=n*16777216 by omega) (by omega),wu64 (show 0<=70368744177664+n*16777216 by omega) (by omega),wu64 (show 0<=70368744177664+n*16777216+Lp k n by omega) (by omega)])
 simp only [Tj,DN,b1,VD]
 by_cases hk0:k=0
 ·rw [if_pos hk0,show (k==0)=true by simpa using hk0];rfl
 ·rw [if_neg hk0,show (k==0)=false by simpa using hk0,cond_false]
  by_cases h1:n<1
  ·rw [if_pos (.inl h1),decide_eq_true h1];rfl
  ·by_cases h2:n>4194302
   ·rw [if_pos (.inr h2),decide_eq_false h1,decide_eq_true h2];rfl
   ·rw [if_neg (by omega),decide_eq_false h1,decide_eq_false h2,cond_false,cond_false];exact b2 _ (by omega) (by omega))
noncomputable def V9 (k e:Int):Aa:=(VD k (IntKind.wrap .u32 (IntKind.wrap .u64 (1+L9 k QO [IntKind.wrap .u64 e] % 4194302)))).1
theorem Za1 (k e:Int):iO k e=some (V9 k e):=(AU _ _).trans (by
 simp only [Z0h,DN]
 rw [show Q7 k ⟨#[101,112,111,99,104]⟩ [IntKind.wrap .u64 e]=some (L9 k QO [IntKind.wrap .u64 e]) from Z0e k QO _ (by decide) (Ya (Yx e)) (by simp)]
 simp only [Option.bind_some,List.length_cons,List.length_nil,beq_self_eq_true,cond_true,Yw (XH k QO [IntKind.wrap .u64 e]).1]
 rw [Z8t k _ (r32 _)]
 rfl)
theorem ZgC (k e:Int) (hk:DI k):oU k e=some (V9 k e):=(AU _ _).trans (by
 simp only [Z2N,DN]
 rw [show Q9 k ⟨#[101,112,111,99,104]⟩ [IntKind.wrap .u64 e]=some (L9 k QO [IntKind.wrap .u64 e]) from ZV k hk QO _ (by decide) (Ya (Yx e)) (by simp)]
 simp only [Option.bind_some,List.length_cons,List.length_nil,beq_self_eq_true,cond_true,Yw (XH k QO [IntKind.wrap .u64 e]).1]
 rw [Zdb k _ hk (r32 _)]
 rfl)
def QA (l p:Int):Int:=if p<1\/l<0 then 0 else Af (Int.tdiv l p)
theorem Z80 (l p:Int):dW l p=some (QA l p):=(AU _ _).trans (by
 have b1:1<=p->AY Vz (.b1 l p)=some (Af (Int.tdiv l p)):=fun h=>(AU _ _).trans (by
  simp only [Vz,DN];rw [show (p != 0)=true by rw [bne_iff_ne];omega];rfl)
 simp only [Vz,DN,QA]
 by_cases h1:p<1
 ·rw [if_pos (.inl h1),decide_eq_true h1];rfl
 ·by_cases h2:l<0
  ·rw [if_pos (.inr h2),decide_eq_false h1,decide_eq_true h2];rfl
  ·rw [if_neg (by omega),decide_eq_false h1,decide_eq_false h2];exact b1 (by omega))
theorem Zbp (l p:Int):jY l p=some (QA l p):=(AU _ _).trans (by
 have b1:1<=p->AY Wl (.b1 l p)=some (Af (Int.tdiv l p)):=fun h=>(AU _ _).trans (by
  simp only [Wl,DN];rw [show (p != 0)=true by rw [bne_iff_ne];omega];rfl)
 simp only [Wl,DN,QA]
 by_cases h1:p<1
 ·rw [if_pos (.inl h1),decide_eq_true h1];rfl
 ·by_cases h2:l<0
  ·rw [if_pos (.inr h2),decide_eq_false h1,decide_eq_true h2];rfl
  ·rw [if_neg (by omega),decide_eq_false h1,decide_eq_false h2];exact b1 (by omega))
noncomputable def VW (i:Bv) (b:Bool) (l p:Int):Aa:=if b=true/\i.Dq≠0 then V9 i.Dq (QA l p) else i.Address
theorem Z74 (i:Bv) (b:Bool) (l p:Int):dA i b l p=some (VW i b l p):=(AU _ _).trans (by
 have b1:∀z,AY TG (.b1 i z)=some i.Address:=fun z=>(AU _ _).trans rfl
 have b2:∀z,AY TG (.b2 l p i z)=some (V9 i.Dq (QA l p)):=fun z=>(AU _ _).trans (by
  simp only [TG,DN,Z80,Za1,Option.bind_some])
 simp only [TG,DN,b1,b2,VW]
 cases b with
 | false=>rfl
 | true=>
  by_cases h:i.Dq=0
  ·rw [if_neg (fun c=>c.2 h),show (i.Dq==0)=true by simpa using h];rfl
  ·rw [if_pos ⟨rfl,h⟩,show (i.Dq==0)=false by simpa using h];rfl)
theorem Z9M (i:Bv) (b:Bool) (l p:Int) (hk:DI i.Dq):iF i b l p=some (VW i b l p):=(AU _ _).trans (by
 have b2:∀z,AY TN (.b2 i z)=some i.Address:=fun z=>(AU _ _).trans rfl
 have b1:∀z,AY TN (.b1 l p i z)=some (V9 i.Dq (QA l p)):=fun z=>(AU _ _).trans (by
  simp only [TN,DN,Zbp,ZgC _ _ hk,Option.bind_some])
 simp only [TN,DN,b1,b2,VW]
 cases b with
 | false=>rfl
 | true=>
  by_cases h:i.Dq=0
  ·rw [if_neg (fun c=>c.2 h),show (i.Dq != 0)=false by rw [bne_eq_false_iff_eq];exact h];rfl
  ·rw [if_pos ⟨rfl,h⟩,show (i.Dq != 0)=true by rw [bne_iff_ne];exact h];rfl)
theorem Zfi (d:Cb) (l:Int) (hk:DI d.GH.DT.Dq):∃a,dI d l=some a/\iC d l=some a:=
 ⟨VW d.GH.DT d.GH.Fa l d.GH.Hq,(AU _ _).trans (by simp only [yM,DN,Z74,Option.bind_some]),(AU _ _).trans (by simp only [ZG,DN,Z9M _ _ _ _ hk,Option.bind_some])⟩
structure UK (u:BB):Prop where
 hi:DI u.High
 lo:DI u.Low
def FY (n:Int):BB:=⟨n*4294967296+4096,9223372588214596859⟩
theorem Qu (n:Int) (h:Np n):Nw n=some (FY n):=(AU _ _).trans (by
 have h1:=h.1;have h2:=h.2
 simp only [ZZ,DN]
 rw [show IntKind.wrap .u64 n=n from wu64 (by omega) (by omega),wu64 (show 0<=n*2 ^ 32 by omega) (by omega),Xz (x:=n*2 ^ 32) (y:=4096) 32 (by decide) (by omega) (by omega) (by omega) (by decide) (by decide)]
 rfl)
theorem OB (n:Int) (h:Np n):LU n=some (FY n):=(AU _ _).trans (by
 have h1:=h.1;have h2:=h.2
 simp only [Z0B,DN]
 rw [show IntKind.wrap .u64 n=n from wu64 (by omega) (by omega),wu64 (show 0<=n*4294967296 by omega) (by omega),wu64 (show 0<=n*4294967296+4096 by omega) (by omega)]
 rfl)
def GR (u:BB):Int×Bool:=if u.Low=9223372588214596859/\u.High % 4294967296=4096/\u.High / 281474976710656=0 then (u.High / 4294967296,true) else (0,false)
theorem Zlw (x:Int) (h:DI x):(x / 2 ^ 0 % 256=251/\x / 2 ^ 8 % 256=52/\x / 2 ^ 16 % 256=155/\x / 2 ^ 24 % 256=95/\x / 2 ^ 32 % 256=128/\x / 2 ^ 40 % 256=0/\x / 2 ^ 48 % 256=0/\x / 2 ^ 56 % 256=128)↔x=9223372588214596859:=by
 constructor
 ·intro ⟨a,b,c,d,e,f,g,i⟩
  have s1:x % 2 ^ 16=13563:=by clear c d e f g i;omega
  have s2:x % 2 ^ 24=10171643:=by clear a b d e f g i;omega
  have s3:x % 2 ^ 32=1604007163:=by clear a b c e f g i s1;omega
  have s4:x % 2 ^ 40=551359821051:=by clear a b c d f g i s1 s2;omega
  have s5:x % 2 ^ 48=551359821051:=by clear a b c d e g i s1 s2 s3;omega
  have s6:x % 2 ^ 56=551359821051:=by clear a b c d e f i s1 s2 s3 s4;omega
  have h1:=h.1;have h2:=h.2
  clear a b c d e f g s1 s2 s3 s4 s5
  omega
 ·rintro rfl
  decide
theorem ZjN (x:Int) (h:DI x):(x / 2 ^ 0 % 256=0/\x / 2 ^ 8 % 256=16/\x / 2 ^ 16 % 256=0/\x / 2 ^ 24 % 256=0/\x / 2 ^ 48 % 256=0/\x / 2 ^ 56 % 256=0)↔x % 4294967296=4096/\x / 281474976710656=0:=by
 have h1:=h.1;have h2:=h.2
 omega
def tY (u:BB):KO:=⟨u.Low / 2 ^ 0 % 256,u.Low / 2 ^ 8 % 256,u.Low / 2 ^ 16 % 256,u.Low / 2 ^ 24 % 256,u.Low / 2 ^ 32 % 256,u.Low / 2 ^ 40 % 256,u.Low / 2 ^ 48 % 256,u.Low / 2 ^ 56 % 256,u.High / 2 ^ 0 % 256,u.High / 2 ^ 8 % 256,u.High / 2 ^ 16 % 256,u.High / 2 ^ 24 % 256,u.High / 2 ^ 32 % 256,u.High / 2 ^ 40 % 256,u.High / 2 ^ 48 % 256,u.High / 2 ^ 56 % 256⟩
theorem Z2O (u:BB):TT u=some (tY u):=(AU _ _).trans (by
 simp only [ZW,DN,aA,IntKind.wrap_u8]
 rfl)
theorem l9 (u:BB) (h:UK u):WN u=some (GR u):=(AU _ _).trans (by
 simp only [Zx,DN,Z2O,Option.bind_some,IntKind.wrap_u16]
 simp only [tY]
 have hl:=Zlw u.Low h.lo
 have hh:=ZjN u.High h.hi
 have h1:=h.hi.1;have h2:=h.hi.2
 by_cases c:u.Low=9223372588214596859/\u.High % 4294967296=4096/\u.High / 281474976710656=0
 ·obtain⟨l0,l1,l2,l3,l4,l5,l6,l7⟩:=hl.mpr c.1
  obtain⟨k0,k1,k2,k3,k4,k5⟩:=hh.mpr c.2
  rw [l0,l1,l2,l3,l4,l5,l6,l7,k0,k1,k2,k3,k4,k5]
  have e:=c.2.2
  have hx:(u.High / 2 ^ 40 % 256 % 65536*2 ^ 8) % 65536=u.High / 2 ^ 40 % 256*256:=by omega
  have hy:u.High / 2 ^ 32 % 256 % 65536=u.High / 2 ^ 32 % 256:=by omega
  rw [hx,hy,Z4J .u16 16 (by decide) (fun n h h' =>SI h h') 8 (by decide) _ _ (by omega) (by omega) (by omega) (by omega) (by omega)]
  simp only [GR,if_pos c]
  exact congrArg (fun x=>some (x,true)) (by omega)
 ·simp only [GR,if_neg c]
  have:¬((u.Low / 2 ^ 0 % 256=251/\u.Low / 2 ^ 8 % 256=52/\u.Low / 2 ^ 16 % 256=155/\u.Low / 2 ^ 24 % 256=95/\u.Low / 2 ^ 32 % 256=128/\u.Low / 2 ^ 40 % 256=0/\u.Low / 2 ^ 48 % 256=0/\u.Low / 2 ^ 56 % 256=128)/\(u.High / 2 ^ 0 % 256=0/\u.High / 2 ^ 8 % 256=16/\u.High / 2 ^ 16 % 256=0/\u.High / 2 ^ 24 % 256=0/\u.High / 2 ^ 48 % 256=0/\u.High / 2 ^ 56 % 256=0)):=fun k=>c ⟨hl.mp k.1,hh.mp k.2⟩
  generalize hg:((_&&_:Bool))=g
  have hf:g=false:=by
   rw [<- hg,<- Bool.not_eq_true]
   simp only [Bool.and_eq_true,beq_iff_eq]
   intro k
   obtain⟨a0,a1,a2,a3,a4,a5,a6,a7,b0,b1,b2,b3,-,-,b4,b5,-⟩:=k
   exact this ⟨⟨a0,a1,a2,a3,a4,a5,a6,a7⟩,b0,b1,b2,b3,b4,b5⟩
  rw [hf]
  rfl)
theorem Zbr (u:BB) (h:UK u):iY u=some (GR u):=(AU _ _).trans (by
 have h1:=h.hi.1;have h2:=h.hi.2
 have e2:∀n,AY jA (.b1 n)=some (IntKind.wrap .u16 n,true):=fun n=>(AU _ _).trans rfl
 simp only [jA,DN,tdn h1,e2,GR]
 rw [show IntKind.wrap .u64 (u.High / 4294967296)=u.High / 4294967296 from wu64 (by omega) (by omega)]
 by_cases a:u.High / 4294967296>65535
 ·rw [decide_eq_true a,if_neg (by omega)];rfl
 ·rw [decide_eq_false a,cond_false,show IntKind.wrap .u16 (u.High / 4294967296)=u.High / 4294967296 from SI (by omega) (by omega),OB _ ⟨by omega,by omega⟩]
  simp only [Option.bind_some,FY]
  by_cases b:u.Low=9223372588214596859/\u.High % 4294967296=4096
  ·rw [if_pos ⟨b.1,b.2,by omega⟩,b.1,show (u.High / 4294967296*4294967296+4096==u.High)=true by rw [beq_iff_eq];omega]
   rfl
  ·rw [if_neg (fun k=>b ⟨k.1,k.2.1⟩)]
   by_cases d:u.High / 4294967296*4294967296+4096=u.High
   ·rw [show ((9223372588214596859:Int)==u.Low)=false by rw [beq_eq_false_iff_ne];omega]
    simp
   ·rw [show (u.High / 4294967296*4294967296+4096==u.High)=false by rw [beq_eq_false_iff_ne];exact d]
    rfl)
theorem Z4a (u:BB) (h:UK u):Np (GR u).1:=by
 have h1:=h.hi.1
 unfold GR
 split
 ·exact⟨by show 0<=u.High / 4294967296;omega,by show u.High / 4294967296<65536;omega⟩
 ·exact⟨by decide,by decide⟩
theorem Ze0 (m:Nat) (hm:m<=100) (v:Int) (h:DI v):∀(d j:Nat),j+d=m->AY UF (.b1 (v / 256 ^ j) m (num j v) j)=some ⟨num m v⟩:=by
 intro d
 induction d with
 | zero=>
  intro j hj
  obtain rfl:j=m:=by omega
  refine(AU _ _).trans ?_
  simp(disch:=omega) only [UF,Int.lt_irrefl,DN,SL,SM]
 | succ d ih=>
  intro j hj
  have p:(0:Int)<256 ^ j:=by exact_mod_cast Nat.pow_pos (by decide)
  have q:0<=v / 256 ^ j:=Int.ediv_nonneg h.1 (Int.le_of_lt p)
  have q' : v / 256 ^ j<18446744073709551616:=Int.lt_of_le_of_lt (Int.ediv_le_self _ h.1) h.2
  have hjm:j<m:=by omega
  have hl:=Dw j v
  rw [<- ih (j+1) (by omega),oN]
  refine(AU _ _).trans ?_
  simp(disch:=omega) only [UF,hjm,hl,Int.tmod_eq_emod_of_nonneg q,Int.tdiv_eq_ediv_of_nonneg q,DN,SL,SM]
  rw [wu8 (by omega) (by omega),wu64 (by omega) (by omega),Int.ediv_ediv_of_nonneg (by omega),Int.pow_succ]
theorem X0 (m:Nat) (hm:m<=100) (v:Int) (h:DI v):LX v m=some ⟨num m v⟩:=(AU _ _).trans (by
 simp only [UF,DN,SL,SM]
 have:=Ze0 m hm v h m 0 (by omega)
 simpa [num] using this)
def AV (u:BB):List Int:=if (GR u).2=true then num 2 (GR u).1 else num 8 u.Low++num 8 u.High
theorem Qr (u:BB):(AV u).length<=16:=by
 unfold AV
 split<;>simp [Dw]
theorem num8 (x:Int):num 8 x=[x % 256,x / 2 ^ 8 % 256,x / 2 ^ 16 % 256,x / 2 ^ 24 % 256,x / 2 ^ 32 % 256,x / 2 ^ 40 % 256,x / 2 ^ 48 % 256,x / 2 ^ 56 % 256]:=by
 have e1:x / 256 / 256=x / 2 ^ 16:=by omega
 have e2:x / 2 ^ 16 / 256=x / 2 ^ 24:=by omega
 have e3:x / 2 ^ 24 / 256=x / 2 ^ 32:=by omega
 have e4:x / 2 ^ 32 / 256=x / 2 ^ 40:=by omega
 have e5:x / 2 ^ 40 / 256=x / 2 ^ 48:=by omega
 have e6:x / 2 ^ 48 / 256=x / 2 ^ 56:=by omega
 simp only [num,e1,e2,e3,e4,e5,e6]
 rfl
theorem Z1Z (u:BB) (h:UK u):WO u=some (AV u):=(AU _ _).trans (by
 simp only [Zu,DN,l9 u h,Option.bind_some,AV]
 have hr:=Z4a u h
 cases hn:(GR u).2 with
 | true=>rw [Z4z hr];rfl
 | false=>
  simp only [cond_false,Z2O,Option.bind_some,cond_true]
  rw [RV _ (by simp) (by simp)]
  simp only [num8,Option.bind_some,tY]
  simp)
theorem Z0P (u:BB) (h:UK u):WX u=some (AV u):=(AU _ _).trans (by
 have hr:=Z4a u h
 have h1:=hr.1;have h2:=hr.2
 have p2:LX (GR u).1 2=_:=X0 2 (by decide) _ ⟨by omega,by omega⟩
 have p8:LX u.Low 8=_:=X0 8 (by decide) _ h.lo
 have p9:LX u.High 8=_:=X0 8 (by decide) _ h.hi
 simp only [Z0b,DN,Zbr u h,Option.bind_some,AV]
 rw [show IntKind.wrap .u64 (GR u).1=(GR u).1 from wu64 (by omega) (by omega),p2,p8,p9]
 cases hn:(GR u).2 with
 | true=>simp(disch:=omega) only [Dw,DN,SL,SM];rfl
 | false=>simp(disch:=omega) only [Dw,DN,SL,SM];rfl)
def Jz {R:Type} (o d:Option R):Option R:=match o with|some r=>some r|none=>d
theorem loop_exit {S R α:Type} (F:S->Int->Option R) (xs:List α) (e:α->Option R) (step:S->α->S) (fin:S->Option R) (Inv:Nat->S->Prop)
  (hexit:∀(i:Nat) s (h:i<xs.length) r,Inv i s->e xs[i]=some r->F s i=some r)
  (hnext:∀(i:Nat) s (h:i<xs.length),Inv i s->e xs[i]=none->F s i=F (step s xs[i]) ((i+1:Nat):Int)/\Inv (i+1) (step s xs[i]))
  (hfin:∀s,Inv xs.length s->F s (xs.length:Int)=fin s) (s:S) (h0:Inv 0 s) :
  F s 0=Jz (xs.findSome? e) (fin (xs.foldl step s))/\(xs.findSome? e=none->Inv xs.length (xs.foldl step s)):=by
 have key:∀(zs ys:List α) (s:S),xs=ys++zs->Inv ys.length s->F s (ys.length:Int)=Jz (zs.findSome? e) (fin (zs.foldl step s))/\(zs.findSome? e=none->Inv xs.length (zs.foldl step s)):=by
  intro zs
  induction zs with
  | nil=>
   intro ys s hx hi
   rw [List.append_nil] at hx
   subst hx
   exact⟨hfin s hi,fun _=>hi⟩
  | cons z zs ih=>
   intro ys s hx hi
   have hl:ys.length<xs.length:=by rw [hx];simp
   have hz:xs[ys.length]=z:=by simp [hx]
   rw [List.findSome?_cons]
   cases he:e z with
   | some r=>exact⟨hexit ys.length s hl r hi (by rw [hz];exact he),fun h=>by cases h⟩
   | none=>
    obtain⟨h1,h2⟩:=hnext ys.length s hl hi (by rw [hz];exact he)
    rw [hz] at h1 h2
    rw [h1]
    have:=ih (ys++[z]) (step s z) (by simp [hx]) (by simpa using h2)
    simpa using this
 exact key xs [] s rfl h0
def hasB (u:BB) (n:Int):Bool:=(GR u).2&&((GR u).1==n)
theorem ZiX (a v:Int):Va [a] v=some (v==a):=(AU _ _).trans (by
 have g1:AY Vh (.b1 [a] v 1 1)=some (-1):=(AU _ _).trans rfl
 have g0:Vg [a] v=bif v==a then some 0 else some (-1):=(AU _ _).trans ((AU _ _).trans (congrArg (fun z=>bif v==a then some 0 else z) g1))
 simp only [aK,DN,g0]
 cases v==a<;>rfl)
theorem Zhi (a b v:Int):Va [a,b] v=some (v==a||v==b):=(AU _ _).trans (by
 have g2:AY Vh (.b1 [a,b] v 2 2)=some (-1):=(AU _ _).trans rfl
 have g1:AY Vh (.b1 [a,b] v 2 1)=bif v==b then some 1 else some (-1):=(AU _ _).trans (congrArg (fun z=>bif v==b then some 1 else z) g2)
 have g0:Vg [a,b] v=bif v==a then some 0 else bif v==b then some 1 else some (-1):=(AU _ _).trans ((AU _ _).trans (congrArg (fun z=>bif v==a then some 0 else z) g1))
 simp only [aK,DN,g0]
 cases v==a<;>cases v==b<;>rfl)
theorem Zkg (u:BB) (h:UK u) (a:Int):Q5 u [a]=some (hasB u a):=(AU _ _).trans (by
 simp only [gW,DN,l9 u h,Option.bind_some,ZiX,hasB]
 cases (GR u).2<;>rfl)
theorem Z3T (u:BB) (h:UK u) (a b:Int):Q5 u [a,b]=some (hasB u a||hasB u b):=(AU _ _).trans (by
 simp only [gW,DN,l9 u h,Option.bind_some,Zhi,hasB]
 cases (GR u).2<;>rfl)
theorem UX (u:BB) (h:UK u) (n:Int) (hn:Np n):Oz u n=some (hasB u n):=(AU _ _).trans (by
 have h1:=hn.1;have h2:=hn.2
 have a1:=h.hi.1
 simp only [Z2S,DN,OB n hn,Option.bind_some,FY]
 refine congrArg some (Bool.eq_iff_iff.mpr ?_)
 simp only [Bool.and_eq_true,beq_iff_eq,hasB,GR,and_true]
 by_cases c:u.Low=9223372588214596859/\u.High % 4294967296=4096/\u.High / 281474976710656=0
 ·rw [if_pos c]
  have:=c.1;have:=c.2.1
  constructor
  ·intro k;exact⟨rfl,by show u.High / 4294967296=n;omega⟩
  ·intro k
   have:u.High / 4294967296=n:=k.2
   omega
 ·rw [if_neg c]
  constructor
  ·intro k;exact absurd ⟨k.2,by omega,by omega⟩ c
  ·intro k;cases k.1)
def O6 (u:BB):Bool:=hasB u 10240||(hasB u 10241||(hasB u 10242||(hasB u 10243||hasB u 10498)))
theorem ZcI (u:BB) (h:UK u):bI u=some (O6 u):=(AU _ _).trans (by
 have e1:bY u=some (hasB u 10240||hasB u 10241):=(AU _ _).trans (by simp only [xR,DN,Z3T u h,Option.bind_some,cond_true])
 have e2:aV u=some (hasB u 10240||hasB u 10241||(hasB u 10242||hasB u 10243)):=(AU _ _).trans (by
  simp only [wM,DN,e1,Z3T u h,Option.bind_some,cond_true]
  cases hasB u 10240||hasB u 10241<;>rfl)
 simp only [xE,DN,e2,Zkg u h,Option.bind_some,cond_true,O6]
 cases hasB u 10240<;>cases hasB u 10241<;>cases hasB u 10242<;>cases hasB u 10243<;>rfl)
theorem Zkw (u:BB) (h:UK u):lM u=some (O6 u):=(AU _ _).trans (by
 have e2:fH u=some (hasB u 10240||(hasB u 10241||(hasB u 10242||hasB u 10243))):=(AU _ _).trans (by
  simp only [zX,DN,UX u h 10240 ⟨by decide,by decide⟩,UX u h 10241 ⟨by decide,by decide⟩,UX u h 10242 ⟨by decide,by decide⟩,UX u h 10243 ⟨by decide,by decide⟩,Option.bind_some]
  cases hasB u 10240<;>cases hasB u 10241<;>cases hasB u 10242<;>rfl)
 simp only [Z1a,DN,e2,UX u h 10498 ⟨by decide,by decide⟩,Option.bind_some,O6]
 cases hasB u 10240<;>cases hasB u 10241<;>cases hasB u 10242<;>cases hasB u 10243<;>rfl)
def Ii (u:BB) (p q:Int) (v:List Int):Int:=
 bif O6 u then 1 else bif decide (p<0) then 5 else bif decide (p>255) then 5 else bif decide (q<0) then 5 else bif decide (q>15) then 5 else bif decide ((v.length:Int)>512) then 4 else 0
theorem XY (u:BB) (h:UK u) (p q:Int) (v:List Int):Vs u p q v=some (Ii u p q v):=(AU _ _).trans (by
 have e1:AY Vr (.b1 v)=some (bif decide ((v.length:Int)>512) then 4 else 0):=(AU _ _).trans (by
  simp only [Vr,DN];cases decide ((v.length:Int)>512)<;>rfl)
 simp only [Vr,DN,ZcI u h,Option.bind_some,e1,Ii]
 cases O6 u<;>cases decide (p<0)<;>cases decide (p>255)<;>cases decide (q<0)<;>cases decide (q>15)<;>rfl)
theorem Xa (u:BB) (h:UK u) (p q:Int) (v:List Int):Wy u p q v=some (Ii u p q v):=(AU _ _).trans (by
 have e1:AY Wx (.b1 v)=some (bif decide ((v.length:Int)>512) then 4 else 0):=(AU _ _).trans (by
  simp only [Wx,DN];cases decide ((v.length:Int)>512)<;>rfl)
 simp only [Wx,DN,Zkw u h,Option.bind_some,e1,Ii]
 cases O6 u<;>cases decide (p<0)<;>cases decide (p>255)<;>cases decide (q<0)<;>cases decide (q>15)<;>rfl)
structure Yq (a:Ac):Prop where
 ty:UK a.BL
 val:a.Value.length<=140737488351232
structure VM (c:BG):Prop where
 ty:UK c.BL
 val:c.Value.length<=140737488351232
 len:c.More.length<=140737488351232
 more:∀a∈c.More,Yq a
structure SY (s:Am):Prop where
 ty:UK s.BL
 len:s.BC.length<=20
 chars:∀c∈s.BC,VM c
structure Uw (l:List Am):Prop where
 len:l.length<=21
 all:∀s∈l,SY s
def JO (n:Int):Option (Int×Int):=bif n != 0 then some (0,n) else none
def Jv (a:Ac):Option (Int×Int):=JO (Ii a.BL 0 a.EH a.Value)
def IA (c:BG):Option (Int×Int):=Jz (JO (Ii c.BL c.Props c.EH c.Value)) (c.More.findSome? Jv)
def JP (s:Am):Option (Int×Int):=s.BC.findSome? IA
def Et (c:BG):Bool:=(bits .and .i64 c.Props (48:Int)) != 0
def Ef (n:Nat) (c:BG):Nat:=n+2+c.More.length+(bif Et c then 1 else 0)
def Gl (n:Nat) (s:Am):Nat:=s.BC.foldl Ef (n+1)
def Yi (l:List Am):Option (Int×Int):=Jz (l.findSome? JP) (some (((l.foldl Gl 0:Nat):Int),0))
theorem Qm {n:Int} {r:Int×Int} (h:JO n=some r):(n != 0)=true/\r=(0,n):=by
 unfold JO at h
 cases hn:n != 0 with
 | true=>rw [hn] at h;exact⟨rfl,by injection h with h;exact h.symm⟩
 | false=>rw [hn] at h;cases h
theorem Oy {n:Int} (h:JO n=none):(n != 0)=false:=by
 unfold JO at h
 cases hn:n != 0 with
 | true=>rw [hn] at h;cases h
 | false=>rfl
theorem DX {α:Type} (i:Nat) (l:List α) (h:i<l.length):kI (i:Int) l=true:=by
 simp only [kI]
 exact decide_eq_true ⟨Int.natCast_nonneg i,by exact_mod_cast h⟩
theorem Dc {α:Type} (i:Nat) (l:List α) (h:i<l.length):l[Int.toNat (i:Int)]? = some l[i]:=by
 rw [Int.toNat_natCast];exact List.getElem?_eq_getElem h
theorem EJ (i n:Nat) (h:i<n):decide ((i:Int)<(n:Int))=true:=decide_eq_true (by exact_mod_cast h)
theorem FC (n:Nat):decide ((n:Int)<(n:Int))=false:=decide_eq_false (by omega)
theorem Z1J (N:Int) (l:List Am) (len i:Int) (c:List BG) (cl j:Int) (m:List Ac) (hm:∀a∈m,Yq a) (hl:m.length<=140737488351232) :
  AY FO (.b4 N l len i c cl j m m.length 0)=Jz (m.findSome? Jv) (AY FO (.b2 N l len i c cl (Af (j+1)))):=by
 refine(loop_exit (fun(_:Unit) k=>AY FO (.b4 N l len i c cl j m m.length k)) m Jv (fun s _=>s) (fun _=>AY FO (.b2 N l len i c cl (Af (j+1)))) (fun _ _=>True)
  (fun k s hk r _ he=>(AU _ _).trans ?_) (fun k s hk _ he=>⟨(AU _ _).trans ?_,trivial⟩) (fun s _=>(AU _ _).trans ?_) () trivial).1
 ·obtain⟨e1,rfl⟩:=Qm he
  simp only [FO,DN,EJ k m.length hk,DX k m hk,Dc k m hk,XY _ (hm _ (List.getElem_mem hk)).ty,cond_true,Option.bind_some,e1]
 ·have e1:=Oy he
  simp only [FO,DN,EJ k m.length hk,DX k m hk,Dc k m hk,XY _ (hm _ (List.getElem_mem hk)).ty,cond_true,cond_false,Option.bind_some,e1]
  rw [EK k (by omega)]
 ·simp only [FO,DN,FC,cond_false]
theorem Zge (N:Nat) (c:BG) (hN:N<=500*140737488351232) (hl:c.More.length<=140737488351232) :
  (bif Et c then Af (Af ((N:Int)+Af ((2:Int)+(c.More.length:Int)))+1) else Af ((N:Int)+Af ((2:Int)+(c.More.length:Int))))=((Ef N c:Nat):Int):=by
 unfold Ef
 rw [FU (show -9223372036854775808<=(2:Int)+(c.More.length:Int) by omega) (by omega),FU (show -9223372036854775808<=(N:Int)+((2:Int)+(c.More.length:Int)) by omega) (by omega),FU (show -9223372036854775808<=(N:Int)+((2:Int)+(c.More.length:Int))+1 by omega) (by omega)]
 cases Et c<;>simp only [cond_true,cond_false]<;>omega
theorem cnt_told' (N:Nat) (c:BG) (hN:N<=500*140737488351232) (hl:c.More.length<=140737488351232) :
  (bif Et c then Af (Af (Af ((N:Int)+2)+(c.More.length:Int))+1) else Af (Af ((N:Int)+2)+(c.More.length:Int)))=((Ef N c:Nat):Int):=by
 unfold Ef
 rw [FU (show -9223372036854775808<=(N:Int)+2 by omega) (by omega),FU (show -9223372036854775808<=(N:Int)+2+(c.More.length:Int) by omega) (by omega),FU (show -9223372036854775808<=(N:Int)+2+(c.More.length:Int)+1 by omega) (by omega)]
 cases Et c<;>simp only [cond_true,cond_false]<;>omega
theorem Z3a (N:Nat) (c:BG) (h:c.More.length<=140737488351232):Ef N c<=N+140737488351236:=by
 unfold Ef;cases Et c<;>simp only [cond_true,cond_false]<;>omega
theorem Z1w (l:List Am) (len i:Int) (c:List BG) (hc:∀x∈c,VM x) (hl:c.length<=20) (N:Nat) (hN:N<=470*140737488351236) :
  AY FO (.b2 N l len i c c.length 0)=Jz (c.findSome? IA) (AY FO (.b1 ((c.foldl Ef N:Nat):Int) l len (Af (i+1)))) /\
   (c.findSome? IA=none->c.foldl Ef N<=N+c.length*140737488351236):=by
 refine loop_exit (fun(n:Nat) k=>AY FO (.b2 n l len i c c.length k)) c IA Ef (fun n=>AY FO (.b1 (n:Int) l len (Af (i+1)))) (fun k n=>n<=N+k*140737488351236)
  (fun k n hk r hi he=>(AU _ _).trans ?_) (fun k n hk hi he=>⟨(AU _ _).trans ?_,?_⟩) (fun s _=>(AU _ _).trans ?_) N (by omega)
 ·have hx:=hc _ (List.getElem_mem hk)
  have b4:=fun M=>Z1J M l len i c c.length k c[k].More hx.more hx.len
  have b3:∀M,AY FO (.b3 M l len i c c.length k c[k])=_:=fun M=>(AU _ _).trans (b4 M)
  have et:QZ c[k]=some (Et c[k]):=(AU _ _).trans rfl
  simp only [FO,DN,EJ k c.length hk,DX k c hk,Dc k c hk,XY _ hx.ty,cond_true,Option.bind_some,et,b3]
  simp only [IA] at he
  cases h1:JO (Ii c[k].BL c[k].Props c[k].EH c[k].Value) with
  | some r1=>
   rw [h1] at he
   obtain⟨e1,rfl⟩:=Qm h1
   rw [e1,cond_true]
   exact he
  | none=>
   rw [h1] at he
   change List.findSome? Jv _=_ at he
   rw [Oy h1,cond_false,he]
   cases Et c[k]<;>rfl
 ·have hx:=hc _ (List.getElem_mem hk)
  have b4:=fun M=>Z1J M l len i c c.length k c[k].More hx.more hx.len
  have b3:∀M,AY FO (.b3 M l len i c c.length k c[k])=_:=fun M=>(AU _ _).trans (b4 M)
  have et:QZ c[k]=some (Et c[k]):=(AU _ _).trans rfl
  simp only [FO,DN,EJ k c.length hk,DX k c hk,Dc k c hk,XY _ hx.ty,cond_true,Option.bind_some,et,b3]
  simp only [IA] at he
  cases h1:JO (Ii c[k].BL c[k].Props c[k].EH c[k].Value) with
  | some r1=>rw [h1] at he;cases he
  | none=>
   rw [h1] at he
   change List.findSome? Jv _=_ at he
   rw [Oy h1,cond_false,he]
   have h2:=Zge n c[k] (by omega) hx.len
   rw [<- EK k (by omega),<- h2]
   cases Et c[k]<;>rfl
 ·have:=Z3a n c[k] (hc _ (List.getElem_mem hk)).len
  omega
 ·simp only [FO,DN,FC,cond_false]
theorem ZhX (l:List Am) (h:Uw l):dE l=Yi l:=(AU _ _).trans (by
 simp only [FO,DN]
 have hlen:=h.len
 refine(loop_exit (fun(n:Nat) k=>AY FO (.b1 n l l.length k)) l JP Gl (fun n=>some ((n:Int),0)) (fun k n=>n<=k*(21*140737488351236))
  (fun k n hk r hi he=>(AU _ _).trans ?_) (fun k n hk hi he=>?_) (fun s _=>(AU _ _).trans ?_) 0 (by omega)).1
 ·have hx:=h.all _ (List.getElem_mem hk)
  have b2:=(Z1w l l.length k l[k].BC hx.chars hx.len (n+1) (by omega)).1
  simp only [JP] at he
  rw [he] at b2
  simp only [FO,DN,EJ k l.length hk,DX k l hk,Dc k l hk,cond_true,Option.bind_some]
  rw [EK n (by omega)]
  exact b2
 ·have hx:=h.all _ (List.getElem_mem hk)
  obtain⟨b2,b5⟩:=Z1w l l.length k l[k].BC hx.chars hx.len (n+1) (by omega)
  simp only [JP] at he
  rw [he] at b2
  have b6:=b5 he
  have hcl:=hx.len
  refine⟨(AU _ _).trans ?_,?_⟩
  ·simp only [FO,DN,EJ k l.length hk,DX k l hk,Dc k l hk,cond_true,Option.bind_some]
   rw [EK n (by omega),<- EK k (by omega)]
   exact b2
  ·show List.foldl Ef (n+1) l[k].BC<=_
   have:l[k].BC.length*140737488351236<=20*140737488351236:=Nat.mul_le_mul_right _ hcl
   omega
 ·simp only [FO,DN,FC,cond_false])
theorem Z2p (l:List Am) (N i j:Int) (c:BG) (hm:∀a∈c.More,Yq a) (hl:c.More.length<=140737488351232) :
  AY FM (.b4 l N i j 0 c)=Jz (c.More.findSome? Jv) (AY FM (.b2 l N i (Af (j+1)))):=by
 refine(loop_exit (fun(_:Unit) k=>AY FM (.b4 l N i j k c)) c.More Jv (fun s _=>s) (fun _=>AY FM (.b2 l N i (Af (j+1)))) (fun _ _=>True)
  (fun k s hk r _ he=>(AU _ _).trans ?_) (fun k s hk _ he=>⟨(AU _ _).trans ?_,trivial⟩) (fun s _=>(AU _ _).trans ?_) () trivial).1
 ·obtain⟨e1,rfl⟩:=Qm he
  simp only [FM,DN,EJ k c.More.length hk,DX k c.More hk,Dc k c.More hk,Xa _ (hm _ (List.getElem_mem hk)).ty,cond_true,Option.bind_some,e1]
 ·have e1:=Oy he
  simp only [FM,DN,EJ k c.More.length hk,DX k c.More hk,Dc k c.More hk,Xa _ (hm _ (List.getElem_mem hk)).ty,cond_true,cond_false,Option.bind_some,e1]
  rw [EK k (by omega)]
 ·simp only [FM,DN,FC,cond_false]
theorem Z0T (l:List Am) (i:Nat) (hi:i<l.length) (hc:∀x∈l[i].BC,VM x) (hl:l[i].BC.length<=20) (N:Nat) (hN:N<=470*140737488351236) :
  AY FM (.b2 l N i 0)=Jz (l[i].BC.findSome? IA) (AY FM (.b1 l ((l[i].BC.foldl Ef N:Nat):Int) (Af (i+1)))) /\
   (l[i].BC.findSome? IA=none->l[i].BC.foldl Ef N<=N+l[i].BC.length*140737488351236):=by
 refine loop_exit (fun(n:Nat) k=>AY FM (.b2 l n i k)) l[i].BC IA Ef (fun n=>AY FM (.b1 l (n:Int) (Af (i+1)))) (fun k n=>n<=N+k*140737488351236)
  (fun k n hk r hin he=>(AU _ _).trans ?_) (fun k n hk hin he=>⟨(AU _ _).trans ?_,?_⟩) (fun s _=>(AU _ _).trans ?_) N (by omega)
 ·have hx:=hc _ (List.getElem_mem hk)
  have b4:=fun M=>Z2p l M i k l[i].BC[k] hx.more hx.len
  have b3:∀M,AY FM (.b3 l M i k l[i].BC[k])=_:=fun M=>(AU _ _).trans (b4 M)
  simp only [FM,DN,DX i l hi,Dc i l hi,EJ k l[i].BC.length hk,DX k l[i].BC hk,Dc k l[i].BC hk,Xa _ hx.ty,cond_true,Option.bind_some,b3]
  simp only [IA] at he
  cases h1:JO (Ii l[i].BC[k].BL l[i].BC[k].Props l[i].BC[k].EH l[i].BC[k].Value) with
  | some r1=>
   rw [h1] at he
   obtain⟨e1,rfl⟩:=Qm h1
   rw [e1,cond_true]
   exact he
  | none=>
   rw [h1] at he
   change List.findSome? Jv _=_ at he
   rw [Oy h1,cond_false,he]
   cases bits .and .i64 l[i].BC[k].Props (48:Int) != 0<;>rfl
 ·have hx:=hc _ (List.getElem_mem hk)
  have b4:=fun M=>Z2p l M i k l[i].BC[k] hx.more hx.len
  have b3:∀M,AY FM (.b3 l M i k l[i].BC[k])=_:=fun M=>(AU _ _).trans (b4 M)
  simp only [FM,DN,DX i l hi,Dc i l hi,EJ k l[i].BC.length hk,DX k l[i].BC hk,Dc k l[i].BC hk,Xa _ hx.ty,cond_true,Option.bind_some,b3]
  simp only [IA] at he
  cases h1:JO (Ii l[i].BC[k].BL l[i].BC[k].Props l[i].BC[k].EH l[i].BC[k].Value) with
  | some r1=>rw [h1] at he;cases he
  | none=>
   rw [h1] at he
   change List.findSome? Jv _=_ at he
   rw [Oy h1,cond_false,he]
   have h2:=cnt_told' n l[i].BC[k] (by omega) hx.len
   rw [<- EK k (by omega),<- h2]
   simp only [Et]
   cases bits .and .i64 l[i].BC[k].Props (48:Int) != 0<;>rfl
 ·have:=Z3a n l[i].BC[k] (hc _ (List.getElem_mem hk)).len
  omega
 ·simp only [FM,DN,DX i l hi,Dc i l hi,FC,cond_false,cond_true,Option.bind_some]
theorem Z7M (l:List Am) (h:Uw l):bP l=Yi l:=(AU _ _).trans (by
 simp only [FM,DN]
 have hlen:=h.len
 refine(loop_exit (fun(n:Nat) k=>AY FM (.b1 l n k)) l JP Gl (fun n=>some ((n:Int),0)) (fun k n=>n<=k*(21*140737488351236))
  (fun k n hk r hi he=>(AU _ _).trans ?_) (fun k n hk hi he=>?_) (fun s _=>(AU _ _).trans ?_) 0 (by omega)).1
 ·have hx:=h.all _ (List.getElem_mem hk)
  have b2:=(Z0T l k hk hx.chars hx.len (n+1) (by omega)).1
  simp only [JP] at he
  rw [he] at b2
  simp only [FM,DN,EJ k l.length hk,cond_true]
  rw [EK n (by omega)]
  exact b2
 ·have hx:=h.all _ (List.getElem_mem hk)
  obtain⟨b2,b5⟩:=Z0T l k hk hx.chars hx.len (n+1) (by omega)
  simp only [JP] at he
  rw [he] at b2
  have b6:=b5 he
  have hcl:=hx.len
  refine⟨(AU _ _).trans ?_,?_⟩
  ·simp only [FM,DN,EJ k l.length hk,cond_true]
   rw [EK n (by omega),<- EK k (by omega)]
   exact b2
  ·show List.foldl Ef (n+1) l[k].BC<=_
   have:l[k].BC.length*140737488351236<=20*140737488351236:=Nat.mul_le_mul_right _ hcl
   omega
 ·simp only [FM,DN,FC,cond_false])
theorem Qi {R α β:Type} (F:List β->Int->Option R) (xs:List α) (step:List β->α->List β) (fin:List β->Option R) (B:Nat) (hm:∀s x,s.length<=(step s x).length)
  (hstep:∀(i:Nat) s (h:i<xs.length),(step s xs[i]).length<=B->F s i=F (step s xs[i]) ((i+1:Nat):Int))
  (hfin:∀s,F s (xs.length:Int)=fin s) (s:List β) (h0:(xs.foldl step s).length<=B):F s 0=fin (xs.foldl step s):=by
 have mono:∀(zs:List α) (s:List β),s.length<=(zs.foldl step s).length:=by
  intro zs
  induction zs with
  | nil=>intro s;exact Nat.le_refl _
  | cons z zs ih=>intro s;exact Nat.le_trans (hm s z) (ih _)
 refine(Z1D F xs step fin (fun i s=>((xs.drop i).foldl step s).length<=B) (fun i s h hi=>?_) (fun s _=>hfin s) s (by simpa using h0)).1
 rw [List.drop_eq_getElem_cons h,List.foldl_cons] at hi
 exact⟨hstep i s h (Nat.le_trans (mono _ _) hi),hi⟩
structure Yk (a:Ac):Prop where
 ty:UK a.BL
 val:a.Value.length<=512
structure SK (c:BG):Prop where
 ty:UK c.BL
 val:c.Value.length<=512
 len:c.More.length<=140737488351232
 more:∀a∈c.More,Yk a
structure O4 (s:Am):Prop where
 ty:UK s.BL
 len:s.BC.length<=20
 chars:∀c∈s.BC,SK c
theorem Z1N {u:BB} {p q:Int} {v:List Int} (h:JO (Ii u p q v)=none):v.length<=512:=by
 have h1:=Oy h
 rw [bne_eq_false_iff_eq] at h1
 by_cases hv:(v.length:Int)>512
 ·exfalso
  revert h1
  unfold Ii
  rw [decide_eq_true hv]
  cases O6 u<;>cases decide (p<0)<;>cases decide (p>255)<;>cases decide (q<0)<;>cases decide (q>15)<;>decide
 ·omega
theorem SY.ok {s:Am} (h:SY s) (he:JP s=none):O4 s:=⟨h.ty,h.len,fun c hc=>by
 have hk:=h.chars c hc
 have e1:IA c=none:=List.findSome?_eq_none_iff.1 he c hc
 unfold IA at e1
 cases h1:JO (Ii c.BL c.Props c.EH c.Value) with
 | some r=>rw [h1] at e1;cases e1
 | none=>
  rw [h1] at e1
  change List.findSome? Jv _=_ at e1
  exact⟨hk.ty,Z1N h1,hk.len,fun a ha=>⟨(hk.more a ha).ty,Z1N (List.findSome?_eq_none_iff.1 e1 a ha)⟩⟩⟩
def ad (xs:List Ac) (t:BB) (p:Int) (v:List Int):List Ac:=xs++[⟨1+(xs.length:Int),t,p,v⟩]
theorem KX (xs:List Ac) (t:BB) (p:Int) (v:List Int):(ad xs t p v).length=xs.length+1:=by simp [ad]
def Jt (xs:List Ac) (a:Ac):List Ac:=ad xs a.BL a.EH a.Value
def LD (n:Nat) (c:BG):List Int:=IntKind.wrap .u8 c.Props::num 2 ((n:Int)+2)++AV c.BL
def JQ (xs:List Ac) (c:BG):List Ac:=ad (ad xs (FY 10243) 1 (LD xs.length c)) c.BL c.EH c.Value
def Iw (xs:List Ac) (c:BG):List Ac:=bif Et c then ad (JQ xs c) (FY 10498) 3 [0,0] else JQ xs c
def GN (xs:List Ac) (c:BG):List Ac:=c.More.foldl Jt (Iw xs c)
def JL (xs:List Ac) (s:Am):List Ac:=ad xs (FY (bif s.KR then 10240 else 10241)) 1 (AV s.BL)
def LG (xs:List Ac) (s:Am):List Ac:=s.BC.foldl GN (JL xs s)
def N8 (l:List Am):List Ac:=l.foldl LG []
theorem UR (xs:List Ac) (a:Ac):(Jt xs a).length=xs.length+1:=KX ..
theorem Zep (m:List Ac):∀xs:List Ac,(m.foldl Jt xs).length=xs.length+m.length:=by
 induction m with
 | nil=>intro xs;rfl
 | cons a m ih=>intro xs;rw [List.foldl_cons,ih,UR,List.length_cons];omega
theorem Zgl (xs:List Ac) (c:BG):(Iw xs c).length=xs.length+2+(bif Et c then 1 else 0):=by
 unfold Iw JQ
 cases Et c<;>simp only [cond_true,cond_false,KX]<;>omega
theorem Xb (xs:List Ac) (c:BG):(GN xs c).length=Ef xs.length c:=by
 unfold GN Ef
 rw [Zep,Zgl]
 omega
theorem Zej (l:List BG):∀xs:List Ac,(l.foldl GN xs).length=l.foldl Ef xs.length:=by
 induction l with
 | nil=>intro xs;rfl
 | cons a m ih=>intro xs;rw [List.foldl_cons,ih,Xb,List.foldl_cons]
theorem Zgs (xs:List Ac) (s:Am):(LG xs s).length=Gl xs.length s:=by
 unfold LG Gl
 rw [Zej,JL,KX]
theorem nR (l:List Am):∀xs:List Ac,(l.foldl LG xs).length=l.foldl Gl xs.length:=by
 induction l with
 | nil=>intro xs;rfl
 | cons a m ih=>intro xs;rw [List.foldl_cons,ih,Zgs,List.foldl_cons]
theorem pY (xs:List Ac) (c:BG):xs.length<=(GN xs c).length:=by rw [Xb];unfold Ef;omega
theorem pK (l:List BG):∀xs:List Ac,xs.length<=(l.foldl GN xs).length:=by
 induction l with
 | nil=>intro xs;exact Nat.le_refl _
 | cons a m ih=>intro xs;exact Nat.le_trans (pY xs a) (ih _)
theorem Z3B (xs:List Ac) (s:Am):xs.length<=(LG xs s).length:=
 Nat.le_trans (by rw [JL,KX];omega) (pK s.BC (JL xs s))
theorem VF (t:BB) (p:Int) (ls:List (List Int)) (xs:List Ac) (hx:xs.length<1000) (hl:ls.flatten.length<=100000) (hn:ls.length<=100000) :
  Oe t p ls xs (1+(xs.length:Int))=some ⟨ad xs t p ls.flatten,1+((ad xs t p ls.flatten).length:Int),ls⟩:=(AU _ _).trans (by
 have hw:IntKind.wrap .u16 (1+(xs.length:Int)+1)=1+((ad xs t p ls.flatten).length:Int):=by
  rw [KX,SI (by omega) (by omega)];omega
 simp(disch:=omega) only [yB,RV ls hl hn,hw,DN,SL,SM]
 rfl)
theorem ZiK (l:List Am) (len i:Int) (c:List BG) (cl j:Int) (m:List Ac) (hm:∀a∈m,Yk a) (hl:m.length<=140737488351232) (xs:List Ac) (hB:(m.foldl Jt xs).length<=1000) :
  AY En (.b5 l len i c cl j m m.length 0 xs (1+(xs.length:Int)))=AY En (.b3 l len i c cl (Af (j+1)) (m.foldl Jt xs) (1+((m.foldl Jt xs).length:Int))):=by
 refine Qi (fun xs k=>AY En (.b5 l len i c cl j m m.length k xs (1+(xs.length:Int)))) m Jt (fun xs=>AY En (.b3 l len i c cl (Af (j+1)) xs (1+(xs.length:Int)))) 1000
  (fun s x=>by rw [UR];omega) (fun k s hk hs=>(AU _ _).trans ?_) (fun s=>(AU _ _).trans ?_) xs hB
 ·have ha:=hm _ (List.getElem_mem hk)
  rw [UR] at hs
  have hv:=ha.val
  have e1:=VF m[k].BL m[k].EH [m[k].Value] s (by omega) (by simp;omega) (by simp)
  simp only [En,DN,EJ k m.length hk,DX k m hk,Dc k m hk,cond_true,Option.bind_some,e1,kL,beq_self_eq_true,Bool.and_self]
  rw [EK k (by omega)]
  simp [Jt]
 ·simp only [En,DN,FC,cond_false,kL,beq_self_eq_true,cond_true]
theorem ZgF (l:List Am) (len i:Int) (c:List BG) (hc:∀x∈c,SK x) (hl:c.length<=20) (xs:List Ac) (hB:(c.foldl GN xs).length<=1000) :
  AY En (.b3 l len i c c.length 0 xs (1+(xs.length:Int)))=AY En (.b1 l len (Af (i+1)) (c.foldl GN xs) (1+((c.foldl GN xs).length:Int))):=by
 refine Qi (fun xs k=>AY En (.b3 l len i c c.length k xs (1+(xs.length:Int)))) c GN (fun xs=>AY En (.b1 l len (Af (i+1)) xs (1+(xs.length:Int)))) 1000
  pY (fun k s hk hs=>(AU _ _).trans ?_) (fun s=>(AU _ _).trans ?_) xs hB
 ·have ha:=hc _ (List.getElem_mem hk)
  have hlen:s.length+2+(bif Et c[k] then 1 else 0)<=1000:=by
   have:=Xb s c[k]
   unfold Ef at this
   omega
  have hv:=ha.val
  have hen:=Qr c[k].BL
  have hw:IntKind.wrap .u16 (1+(s.length:Int)+1)=(s.length:Int)+2:=by rw [SI (by omega) (by omega)];omega
  have hu:Np ((s.length:Int)+2):=⟨by omega,by omega⟩
  have e1:=VF (FY 10243) 1 [[IntKind.wrap .u8 c[k].Props,IntKind.wrap .u8 ((s.length:Int)+2),IntKind.wrap .u8 (Int.fdiv ((s.length:Int)+2) (2 ^ (8:Nat)))],AV c[k].BL] s (by omega) (by simp;omega) (by simp)
  have e1v:[[IntKind.wrap .u8 c[k].Props,IntKind.wrap .u8 ((s.length:Int)+2),IntKind.wrap .u8 (Int.fdiv ((s.length:Int)+2) (2 ^ (8:Nat)))],AV c[k].BL].flatten=LD s.length c[k]:=by
   have:=Z4z hu
   simp only [List.flatten_cons,List.flatten_nil,List.append_nil,LD,List.cons_append]
   rw [<- this]
   rfl
  rw [e1v] at e1
  have e2:=VF c[k].BL c[k].EH [c[k].Value] (ad s (FY 10243) 1 (LD s.length c[k])) (by rw [KX];omega) (by simp;omega) (by simp)
  rw [show [c[k].Value].flatten=c[k].Value by simp] at e2
  have et:QZ c[k]=some (Et c[k]):=(AU _ _).trans rfl
  have hfin:∀ys:List Ac,ys=Iw s c[k]->AY En (.b4 l len i c c.length k ys (1+(ys.length:Int)) c[k])=AY En (.b3 l len i c c.length ((k+1:Nat):Int) (GN s c[k]) (1+((GN s c[k]).length:Int))):=fun ys hy=>(AU _ _).trans (by
   subst hy
   simp only [En,DN,kL,beq_self_eq_true,cond_true]
   rw [ZiK l len i c c.length k c[k].More ha.more ha.len (Iw s c[k]) hs,EK k (by omega)]
   rfl)
  simp only [En,DN,EJ k c.length hk,DX k c hk,Dc k c hk,cond_true,Option.bind_some,Qu 10243 ⟨by decide,by decide⟩,Qu 10498 ⟨by decide,by decide⟩,Z1Z _ ha.ty,hw,kL,beq_self_eq_true,Bool.and_self,e1,e2,et]
  cases hT:Et c[k] with
  | true=>
   rw [hT] at hlen
   simp only [cond_true] at hlen
   have e3:=VF (FY 10498) 3 [[0,0]] (JQ s c[k]) (by simp only [JQ,KX];omega) (by simp) (by simp)
   simp only [JQ] at e3
   simp only [cond_true,e3,Option.bind_some]
   refine hfin _ ?_
   simp only [Iw,hT,cond_true,JQ]
   rfl
  | false=>
   simp only [cond_false]
   refine hfin _ ?_
   simp only [Iw,hT,cond_false,JQ]
 ·simp only [En,DN,FC,cond_false,kL,beq_self_eq_true,cond_true]
theorem ZgT (l:List Am) (hl:l.length<=21) (ho:∀s∈l,O4 s) (hB:(N8 l).length<=1000) :
  AY En (.b1 l l.length 0 [] 1)=some (N8 l,0):=by
 refine Qi (fun xs k=>AY En (.b1 l l.length k xs (1+(xs.length:Int)))) l LG (fun xs=>some (xs,0)) 1000
  Z3B (fun k s hk hs=>(AU _ _).trans ?_) (fun s=>(AU _ _).trans ?_) [] hB
 ·have ha:=ho _ (List.getElem_mem hk)
  have hen:=Qr l[k].BL
  have hlen:s.length+1<=1000:=by
   have:=pK l[k].BC (JL s l[k])
   rw [show (JL s l[k]).length=s.length+1 by rw [JL,KX]] at this
   exact Nat.le_trans this hs
  have b2:∀n,Np n->n=(bif l[k].KR then 10240 else 10241)->AY En (.b2 n l l.length k s (1+(s.length:Int)) l[k])=AY En (.b1 l l.length ((k+1:Nat):Int) (LG s l[k]) (1+((LG s l[k]).length:Int))):=fun n hn hp=>(AU _ _).trans (by
   have e1:=VF (FY n) 1 [AV l[k].BL] s (by omega) (by simp;omega) (by simp)
   rw [show [AV l[k].BL].flatten=AV l[k].BL by simp] at e1
   simp only [En,DN,Qu n hn,Z1Z _ ha.ty,Option.bind_some,kL,beq_self_eq_true,cond_true,Bool.and_self,e1]
   subst hp
   have:=ZgF l l.length k l[k].BC ha.chars ha.len (JL s l[k]) hs
   rw [<- EK k (by omega)]
   exact this)
  simp only [En,DN,EJ k l.length hk,DX k l hk,Dc k l hk,cond_true,Option.bind_some,kL,beq_self_eq_true]
  cases hp:l[k].KR with
  | true=>exact b2 10240 ⟨by decide,by decide⟩ (by rw [hp];rfl)
  | false=>exact b2 10241 ⟨by decide,by decide⟩ (by rw [hp];rfl)
 ·simp only [En,DN,FC,cond_false,kL,beq_self_eq_true,cond_true]
theorem Ky (n k:Nat) (h:n*k<=140737488355328) (h' : n<=9223372036854775807):kA n k=true:=by
 simp only [kA,Bool.and_eq_true]
 exact⟨decide_eq_true h,decide_eq_true h'⟩
theorem Uo (t:BB) (p:Int) (v:List Int) (xs:List Ac) (hx:xs.length<1000) (hv:v.length<=1000):LW xs 1 t p v=some ⟨ad xs t p v⟩:=(AU _ _).trans (by
 have h1:kA (0+v.length) 1=true:=Ky _ _ (by omega) (by omega)
 have h2:kA (xs.length+1) 56=true:=Ky _ _ (by omega) (by omega)
 have hw:IntKind.wrap .u16 (1+IntKind.wrap .u16 (xs.length:Int))=1+(xs.length:Int):=by
  rw [SI (show 0<=(xs.length:Int) by omega) (by omega),SI (by omega) (by omega)]
 have DN' :=DN
 obtain⟨d1,d2,d3,d4,d5,d6,d7,d8,d9,d10,-,-⟩:=DN'
 simp only [Z2g,d1,d2,d3,d4,d5,d6,d7,d8,d9,d10,h1,h2,hw,cond_true,List.nil_append]
 rfl)
theorem Zjh (c:BG) (hm:∀a∈c.More,Yk a) (hl:c.More.length<=140737488351232) (xs:List Ac) (hB:(c.More.foldl Jt xs).length<=1000) :
  AY Ns (.b2 xs 1 0 c)=some ⟨c.More.foldl Jt xs⟩:=by
 refine Qi (fun xs k=>AY Ns (.b2 xs 1 k c)) c.More Jt (fun xs=>some ⟨xs⟩) 1000
  (fun s x=>by rw [UR];omega) (fun k s hk hs=>(AU _ _).trans ?_) (fun s=>(AU _ _).trans ?_) xs hB
 ·have ha:=hm _ (List.getElem_mem hk)
  rw [UR] at hs
  have hv:=ha.val
  simp only [Ns,DN,EJ k c.More.length hk,DX k c.More hk,Dc k c.More hk,cond_true,Option.bind_some]
  rw [Uo _ _ _ s (by omega) (by omega),EK k (by omega)]
  rfl
 ·simp only [Ns,DN,FC,cond_false,cond_true]
theorem Zfl (c:BG) (hc:SK c) (xs:List Ac) (hB:(GN xs c).length<=1000):gB xs 1 c=some ⟨GN xs c⟩:=(AU _ _).trans (by
 have hlen:xs.length+2+(bif Et c then 1 else 0)<=1000:=by
  have:=Xb xs c
  unfold Ef at this
  omega
 have hv:=hc.val
 have hen:=Qr c.BL
 have hw1:Af (Af (Af 1+(xs.length:Int))+1)=(xs.length:Int)+2:=by
  rw [show Af 1=1 from rfl,FU (show -9223372036854775808<=1+(xs.length:Int) by omega) (by omega),FU (show -9223372036854775808<=1+(xs.length:Int)+1 by omega) (by omega)];omega
 have hp:LX ((xs.length:Int)+2) 2=some ⟨num 2 ((xs.length:Int)+2)⟩:=X0 2 (by decide) _ ⟨by omega,by omega⟩
 have hdl:(LD xs.length c).length<=100:=by simp only [LD,List.length_cons,List.length_append,Dw];omega
 have k1:kA (1+(num 2 ((xs.length:Int)+2)).length) 1=true:=Ky _ _ (by rw [Dw];decide) (by rw [Dw];decide)
 have k2:kA (([IntKind.wrap .u8 c.Props]++num 2 ((xs.length:Int)+2)).length+(AV c.BL).length) 1=true:=Ky _ _ (by simp only [List.length_append,List.length_cons,List.length_nil,Dw];omega) (by simp only [List.length_append,List.length_cons,List.length_nil,Dw];omega)
 have e1:LW xs 1 (FY 10243) 1 (([IntKind.wrap .u8 c.Props]++num 2 ((xs.length:Int)+2))++AV c.BL)=some ⟨ad xs (FY 10243) 1 (LD xs.length c)⟩:=Uo _ _ (LD xs.length c) xs (by omega) (by omega)
 have e2:LW (ad xs (FY 10243) 1 (LD xs.length c)) 1 c.BL c.EH c.Value=some ⟨JQ xs c⟩:=Uo _ _ _ _ (by rw [KX];omega) (by omega)
 have hfin:∀ys:List Ac,ys=Iw xs c->AY Ns (.b1 ys 1 c)=some ⟨GN xs c⟩:=fun ys hy=>(AU _ _).trans (by
  subst hy
  simp only [Ns,DN]
  exact Zjh c hc.more hc.len (Iw xs c) hB)
 have DN' :=DN
 obtain⟨d1,d2,d3,d4,d5,d6,d7,d8,d9,d10,-,-⟩:=DN'
 simp only [Ns,d1,d2,d3,d4,d5,d6,d7,d8,d9,d10,hw1]
 rw [show IntKind.wrap .u64 ((xs.length:Int)+2)=(xs.length:Int)+2 from wu64 (by omega) (by omega),hp]
 simp only [Option.bind_some,k1,k2,cond_true,OB 10243 ⟨by decide,by decide⟩,OB 10498 ⟨by decide,by decide⟩,Z0P _ hc.ty,e1,e2]
 cases hT:Et c with
 | true=>
  rw [hT] at hlen
  simp only [cond_true] at hlen
  have e3:LW (JQ xs c) 1 (FY 10498) 3 [(0:Int),(0:Int)]=some ⟨ad (JQ xs c) (FY 10498) 3 [0,0]⟩:=Uo _ _ _ _ (by simp only [JQ,KX];omega) (by simp)
  simp only [Et] at hT
  rw [hT,e3]
  simp only [cond_true,Option.bind_some]
  refine hfin _ ?_
  simp only [Iw,Et,hT,cond_true]
 | false=>
  simp only [Et] at hT
  rw [hT]
  simp only [cond_false]
  refine hfin _ ?_
  simp only [Iw,Et,hT,cond_false])
theorem Zgt (l:List Am) (i:Nat) (hi:i<l.length) (ho:O4 l[i]) (xs:List Ac) (hB:(l[i].BC.foldl GN xs).length<=1000) :
  AY IK (.b3 l 1 xs i 0)=AY IK (.b1 l 1 (l[i].BC.foldl GN xs) (Af (i+1))):=by
 refine Qi (fun xs k=>AY IK (.b3 l 1 xs i k)) l[i].BC GN (fun xs=>AY IK (.b1 l 1 xs (Af (i+1)))) 1000
  pY (fun k s hk hs=>(AU _ _).trans ?_) (fun s=>(AU _ _).trans ?_) xs hB
 ·have ha:=ho.chars _ (List.getElem_mem hk)
  have hcl:=ho.len
  simp only [IK,DN,DX i l hi,Dc i l hi,EJ k l[i].BC.length hk,DX k l[i].BC hk,Dc k l[i].BC hk,cond_true,Option.bind_some,Zfl _ ha s hs]
  rw [EK k (by omega)]
 ·simp only [IK,DN,DX i l hi,Dc i l hi,FC,cond_true,cond_false,Option.bind_some]
theorem Zjv (l:List Am) (hl:l.length<=21) (ho:∀s∈l,O4 s) (hB:(N8 l).length<=1000) :
  AY IK (.b1 l 1 [] 0)=some (N8 l,0):=by
 refine Qi (fun xs k=>AY IK (.b1 l 1 xs k)) l LG (fun xs=>some (xs,0)) 1000
  Z3B (fun k s hk hs=>(AU _ _).trans ?_) (fun s=>(AU _ _).trans ?_) [] hB
 ·have ha:=ho _ (List.getElem_mem hk)
  have hen:=Qr l[k].BL
  have hlen:s.length+1<=1000:=by
   have:=pK l[k].BC (JL s l[k])
   rw [show (JL s l[k]).length=s.length+1 by rw [JL,KX]] at this
   exact Nat.le_trans this hs
  have b2:∀n,Np n->n=(bif l[k].KR then 10240 else 10241)->AY IK (.b2 l 1 s k n)=AY IK (.b1 l 1 (LG s l[k]) ((k+1:Nat):Int)):=fun n hn hp=>(AU _ _).trans (by
   simp only [IK,DN,OB n hn,DX k l hk,Dc k l hk,Z0P _ ha.ty,Option.bind_some,cond_true]
   rw [Uo (FY n) 1 (AV l[k].BL) s (by omega) (by omega)]
   simp only [Option.bind_some]
   subst hp
   have:=Zgt l k hk ha (JL s l[k]) hs
   rw [<- EK k (by omega)]
   exact this)
  simp only [IK,DN,EJ k l.length hk,DX k l hk,Dc k l hk,cond_true,Option.bind_some]
  cases hp:l[k].KR with
  | true=>exact b2 10240 ⟨by decide,by decide⟩ (by rw [hp];rfl)
  | false=>exact b2 10241 ⟨by decide,by decide⟩ (by rw [hp];rfl)
 ·simp only [IK,DN,FC,cond_false,cond_true]
def IU (l:List Am):List Ac×Int:=
 match l.findSome? JP with
 | some r=>([],r.2)
 | none=>if l.foldl Gl 0>1000 then ([],4) else (N8 l,0)
theorem Zh6 {a:Ac} {r:Int×Int} (h:Jv a=some r):(r.2 != 0)=true:=by obtain⟨h1,rfl⟩:=Qm h;exact h1
theorem ZiJ {c:BG} {r:Int×Int} (h:IA c=some r):(r.2 != 0)=true:=by
 unfold IA at h
 cases h1:JO (Ii c.BL c.Props c.EH c.Value) with
 | some r1=>rw [h1] at h;obtain⟨h2,rfl⟩:=Qm h1;cases h;exact h2
 | none=>
  rw [h1] at h
  obtain⟨a,-,ha⟩:=List.exists_of_findSome?_eq_some (show c.More.findSome? Jv=some r from h)
  exact Zh6 ha
theorem pU {s:Am} {r:Int×Int} (h:JP s=some r):(r.2 != 0)=true:=by
 obtain⟨c,-,hc⟩:=List.exists_of_findSome?_eq_some (show s.BC.findSome? IA=some r from h)
 exact ZiJ hc
theorem Zhz (l:List Am) (h:Uw l):dF l 1=some (IU l):=(AU _ _).trans (by
 simp only [En,DN,ZhX l h,Yi,IU,show ((1:Int)==0)=false from rfl,cond_false]
 cases he:l.findSome? JP with
 | some r=>
  obtain⟨s,-,hs⟩:=List.exists_of_findSome?_eq_some he
  simp only [Jz,Option.bind_some,pU hs,cond_true]
 | none=>
  simp only [Jz,Option.bind_some,bne_self_eq_false,cond_false]
  by_cases hn:l.foldl Gl 0>1000
  ·rw [if_pos hn,decide_eq_true (show ((l.foldl Gl 0:Nat):Int)>1000 by omega)];rfl
  ·rw [if_neg hn,decide_eq_false (show ¬((l.foldl Gl 0:Nat):Int)>1000 by omega),cond_false,show Af 1=1 from rfl,FU (show -9223372036854775808<=(1:Int)+((l.foldl Gl 0:Nat):Int) by omega) (by omega),FU (by omega) (by omega),decide_eq_false (by omega),cond_false]
   exact ZgT l h.len (fun s hs=>(h.all s hs).ok (List.findSome?_eq_none_iff.1 he s hs)) (by rw [N8,nR];simpa using hn))
theorem Zce (l:List Am) (h:Uw l):jP l 1=some (IU l):=(AU _ _).trans (by
 simp only [IK,DN,Z7M l h,Yi,IU,show ((1:Int)==0)=false from rfl,cond_false]
 cases he:l.findSome? JP with
 | some r=>
  obtain⟨s,-,hs⟩:=List.exists_of_findSome?_eq_some he
  simp only [Jz,Option.bind_some,pU hs,cond_true]
 | none=>
  simp only [Jz,Option.bind_some,bne_self_eq_false,cond_false]
  by_cases hn:l.foldl Gl 0>1000
  ·rw [if_pos hn,decide_eq_true (show ((l.foldl Gl 0:Nat):Int)>1000 by omega)];rfl
  ·rw [if_neg hn,decide_eq_false (show ¬((l.foldl Gl 0:Nat):Int)>1000 by omega),cond_false,show Af 1=1 from rfl,FU (show -9223372036854775808<=(1:Int)+((l.foldl Gl 0:Nat):Int) by omega) (by omega),FU (by omega) (by omega),decide_eq_false (by omega),cond_false]
   exact Zjv l h.len (fun s hs=>(h.all s hs).ok (List.findSome?_eq_none_iff.1 he s hs)) (by rw [N8,nR];simpa using hn))
theorem UH {R α:Type} (F:List α->Int->Option R) (l:List α) (fin:List α->Option R) (z:α)
  (hstep:∀(i:Nat) s (h:i<l.length),s.length=l.length->F s i=F (s.set i l[i]) ((i+1:Nat):Int)) (hfin:∀s,s.length=l.length->F s (l.length:Int)=fin s) :
  F (List.replicate l.length z) 0=fin l:=by
 have key:∀d i:Nat,i+d=l.length->F (l.take i++List.replicate d z) i=fin l:=by
  intro d
  induction d with
  | zero=>
   intro i hi
   obtain rfl:i=l.length:=by omega
   rw [List.replicate_zero,List.append_nil,List.take_length]
   exact hfin l rfl
  | succ d ih=>
   intro i hi
   rw [hstep i _ (by omega) (by simp;omega)]
   have:(l.take i++List.replicate (d+1) z).set i l[i]=l.take (i+1)++List.replicate d z:=by
    have hl:(l.take i).length=i:=by simp;omega
    rw [List.set_append_right _ _ (by omega),hl,Nat.sub_self,List.replicate_succ,List.set_cons_zero,List.take_add_one,List.getElem?_eq_getElem (show i<l.length by omega),Option.toList_some,List.append_assoc]
    rfl
   rw [this]
   exact ih (i+1) (by omega)
 have:=key l.length 0 (by omega)
 simpa using this
def EY (n:Nat):List Int:=List.replicate n 255
theorem IL (n:Nat):(EY n).length=n:=by simp [EY]
theorem MC (n k:Nat) (h:n*k<=140737488355328) (hn:n<=140737488355328):decide (0<=(n:Int)/\(n:Int)<=(n:Int)/\Int.toNat (n:Int)*k<=lim/\(n:Int)<=(↑maxLen:Int))=true:=
 decide_eq_true ⟨Int.natCast_nonneg n,Int.le_refl _,by rw [Int.toNat_natCast];exact h,by have:n<=maxLen:=Nat.le_trans hn (by decide);exact_mod_cast this⟩
theorem VX {α:Type} (s:List α) (i:Nat) (x:α):((s.set (Int.toNat (i:Int)) x).length==s.length)=true:=by simp
theorem Zgj (n:Nat) (hn:n<=65536):TL n=some (EY n):=(AU _ _).trans (by
 have hf:=UH (fun s k=>AY MQ (.b1 s n k)) (EY n) some 0 (fun i s h hs=>(AU _ _).trans (by
   rw [IL] at h hs
   have h1:kI (i:Int) s=true:=DX i s (by omega)
   have h2:s[Int.toNat (i:Int)]? = some s[i]:=Dc i s (by omega)
   simp only [MQ,DN,EJ i n h,cond_true,h2,Option.bind_some,VX,beq_self_eq_true,Bool.true_and,decide_eq_true (Nat.zero_le _),show decide (0<=(i:Int)/\(i:Int)<(s.length:Int))=true from h1]
   rw [EK i (by omega),Int.toNat_natCast]
   simp [EY])) (fun s hs=>(AU _ _).trans (by
   rw [IL]
   simp only [MQ,DN,FC,cond_false,cond_true]))
 rw [IL] at hf
 simp only [MQ,DN]
 rw [MC n 1 (by omega) (by omega),cond_true]
 simp only [Int.toNat_natCast,List.length_replicate]
 exact hf)
theorem ZbW (n:Nat) (hn:n<=65536):WY n=some ⟨EY n⟩:=(AU _ _).trans (by
 have hf:=UH (fun s k=>AY Tc (.b1 n s k)) (EY n) (fun s=>some ⟨s⟩) 0 (fun i s h hs=>(AU _ _).trans (by
   rw [IL] at h hs
   have h1:kI (i:Int) s=true:=DX i s (by omega)
   have h2:s[Int.toNat (i:Int)]? = some s[i]:=Dc i s (by omega)
   simp only [Tc,DN,EJ i n h,cond_true,h2,Option.bind_some,VX,beq_self_eq_true,Bool.true_and,decide_eq_true (Nat.zero_le _),show decide (0<=(i:Int)/\(i:Int)<(s.length:Int))=true from h1]
   rw [EK i (by omega),Int.toNat_natCast]
   simp [EY])) (fun s hs=>(AU _ _).trans (by
   rw [IL]
   simp only [Tc,DN,FC,cond_false,cond_true]))
 rw [IL] at hf
 simp only [Tc,DN]
 rw [MC n 1 (by omega) (by omega),cond_true]
 simp only [Int.toNat_natCast]
 exact hf)
def H7 (n:Nat):BV:=⟨⟨EY n,EY n⟩⟩
def JH (m:Int):BV×Int:=if m<64\/m>65536 then (⟨⟨[],[]⟩⟩,5) else (H7 m.toNat,0)
theorem Z44 (m:Int):Q8 m=some (decide (64<=m/\m<=65536)):=(AU _ _).trans (by
 simp only [WZ,DN]
 by_cases h:m>=64
 ·rw [decide_eq_true h,cond_true]
  refine congrArg some (Bool.eq_iff_iff.mpr ?_)
  simp only [decide_eq_true_eq]
  omega
 ·rw [decide_eq_false h,cond_false,decide_eq_false (by omega)])
theorem ZiS (m:Int):TQ m=some (JH m):=(AU _ _).trans (by
 simp only [WT,DN,Z44,Option.bind_some,JH]
 by_cases h:m<64\/m>65536
 ·rw [if_pos h,decide_eq_false (by omega)];rfl
 ·rw [if_neg h,decide_eq_true (by omega)]
  have e:=Zgj m.toNat (by omega)
  rw [Int.toNat_of_nonneg (by omega)] at e
  simp only [e,Bool.not_true,cond_false,Option.bind_some]
  rfl)
theorem ZcN (m:Int):kC m=some (JH m):=(AU _ _).trans (by
 have b1:∀z,AY Ti (.b1 z)=some (⟨⟨[],[]⟩⟩,5):=fun z=>(AU _ _).trans rfl
 have b2:∀z,¬(m<64\/m>65536)->AY Ti (.b2 m z)=some (H7 m.toNat,0):=fun z h=>(AU _ _).trans (by
  have e:=ZbW m.toNat (by omega)
  rw [Int.toNat_of_nonneg (by omega)] at e
  simp only [Ti,DN,e,Option.bind_some]
  rfl)
 simp only [Ti,DN,b1,JH]
 by_cases h1:m<64
 ·rw [decide_eq_true h1,if_pos (Or.inl h1)];rfl
 ·by_cases h2:m>65536
  ·rw [decide_eq_false h1,decide_eq_true h2,if_pos (Or.inr h2)];rfl
  ·rw [decide_eq_false h1,decide_eq_false h2,if_neg (by omega)];exact b2 _ (by omega))
theorem Ye (x:Int) (h:0<=x/\x<4294967296):0<=bits .and .u32 x 15/\bits .and .u32 x 15<16:=by
 obtain⟨n,rfl⟩:=Int.eq_ofNat_of_zero_le h.1
 have:=(bits_nat .u32 32 (by decide) (fun n h h' =>QH h h') n 15 (by have:=h.2;omega) (by decide)).1
 rw [show (15:Int)=((15:Nat):Int) from rfl,this,show (15:Nat)=2 ^ 4 - 1 from rfl,Nat.and_two_pow_sub_one_eq_mod]
 omega
theorem sixteen {l:List Int} (h:l.length=16) (i:Int) (hi:0<=i/\i<16):∃y,l[Int.toNat i]? = some y:=
 ⟨_,List.getElem?_eq_getElem (by omega)⟩
theorem ZkF (a b:Int):∃y,kT a b=some y:=by
 obtain⟨x1,h1⟩:=sixteen (l:=[0,1788928,3577856,3003392,7155712,7764992,6006784,4252672,14311424,12659712,15529984,16233472,12013568,11279360,8505344,10126336]) rfl _ (Ye (bits .xor .u32 a (IntKind.wrap .u32 b)) (b32 _ _ _))
 obtain⟨x2,h2⟩:=sixteen (l:=[0,1788928,3577856,3003392,7155712,7764992,6006784,4252672,14311424,12659712,15529984,16233472,12013568,11279360,8505344,10126336]) rfl _ (Ye (bits .xor .u32 (bits .xor .u32 (Int.fdiv a (2 ^ (4:Nat))) x1) (IntKind.wrap .u32 ((Int.fdiv b (2 ^ (4:Nat)))))) (b32 _ _ _))
 refine⟨bits .xor .u32 (Int.fdiv (bits .xor .u32 (Int.fdiv a (2 ^ (4:Nat))) x1) (2 ^ (4:Nat))) x2,(AU _ _).trans ?_⟩
 simp only [Z1s,DN,decide_eq_true (Ye (bits .xor .u32 a (IntKind.wrap .u32 b)) (b32 _ _ _)),h1,h2,Option.bind_some,cond_true,decide_eq_true (Ye (bits .xor .u32 (bits .xor .u32 (Int.fdiv a (2 ^ (4:Nat))) x1) (IntKind.wrap .u32 ((Int.fdiv b (2 ^ (4:Nat)))))) (b32 _ _ _))]
theorem t_Sum (s:Int) (l:List Int) (hl:l.length<=1000000):∃y,mM s l=some y:=by
 have key:∀(d k:Nat) (s:Int),k+d=l.length->∃y,AY XP (.b1 s l l.length k)=some y:=by
  intro d
  induction d with
  | zero=>
   intro k s hk
   obtain rfl:k=l.length:=by omega
   exact⟨s,(AU _ _).trans (by simp only [XP,DN,FC,cond_false])⟩
  | succ d ih=>
   intro k s hk
   obtain⟨x,hx⟩:=ZkF s (l[k]'(by omega))
   obtain⟨y,hy⟩:=ih (k+1) x (by omega)
   refine⟨y,(AU _ _).trans ?_⟩
   simp only [XP,DN,EJ k l.length (by omega),DX k l (by omega),Dc k l (by omega),cond_true,Option.bind_some,hx]
   rw [EK k (by omega)]
   exact hy
 obtain⟨y,hy⟩:=key l.length 0 (bits .and .u32 s 16777215) (by omega)
 exact⟨y,(AU _ _).trans hy⟩
theorem ZfW (s:Int) (l:List Int) (hl:l.length<=1000000):∃y,nD s l=some y:=by
 have feed:∀a b,∃y,kW a b=some y:=fun a b=>by
  cases h:bits .xor .u32 (Int.tmod a 2) b==1 with
  | true=>exact⟨_,(AU _ _).trans (by simp only [lJ,DN,h,cond_true];rfl)⟩
  | false=>exact⟨_,(AU _ _).trans (by simp only [lJ,DN,h,cond_false];rfl)⟩
 have inner:∀(d j:Nat) (i s v:Int),j+d=8->∃y,AY Ox (.b2 l s i v j)=AY Ox (.b1 l y (Af (i+1))):=by
  intro d
  induction d with
  | zero=>
   intro j i s v hj
   obtain rfl:j=8:=by omega
   exact⟨s,(AU _ _).trans rfl⟩
  | succ d ih=>
   intro j i s v hj
   obtain⟨x,hx⟩:=feed s (Int.tmod v 2)
   obtain⟨y,hy⟩:=ih (j+1) i x (IntKind.wrap .u32 (Int.tdiv v 2)) (by omega)
   refine⟨y,(AU _ _).trans ?_⟩
   simp only [Ox,DN,decide_eq_true (show (j:Int)<8 by omega),cond_true,Option.bind_some,hx]
   rw [EK j (by omega)]
   exact hy
 have key:∀(d k:Nat) (s:Int),k+d=l.length->∃y,AY Ox (.b1 l s k)=some y:=by
  intro d
  induction d with
  | zero=>
   intro k s hk
   obtain rfl:k=l.length:=by omega
   exact⟨s,(AU _ _).trans (by simp only [Ox,DN,FC,cond_false])⟩
  | succ d ih=>
   intro k s hk
   obtain⟨x,hx⟩:=inner 8 0 k s (IntKind.wrap .u32 (l[k]'(by omega))) rfl
   obtain⟨y,hy⟩:=ih (k+1) x (by omega)
   refine⟨y,(AU _ _).trans ?_⟩
   simp only [Ox,DN,EJ k l.length (by omega),DX k l (by omega),Dc k l (by omega),cond_true,Option.bind_some]
   rw [EK k (by omega)] at hx
   exact hx.trans hy
 obtain⟨y,hy⟩:=key l.length 0 (Int.tmod s 16777216) (by omega)
 exact⟨y,(AU _ _).trans hy⟩
theorem Z3R (xs:List Int):Go.Proofs.YtlabamnhpgoekaaGreatDoor.Le.bytesOf (xs.map (U.enc 5))=some (xs.map fun n=>UInt8.ofNat n.toNat):=by
 induction xs with
 | nil=>rfl
 | cons x xs ih=>
  rw [List.map_cons]
  show (match Go.Proofs.YtlabamnhpgoekaaGreatDoor.Le.byteOf (U.enc 5 x),Go.Proofs.YtlabamnhpgoekaaGreatDoor.Le.bytesOf (xs.map (U.enc 5)) with|some b,some bs=>some (b::bs)|_,_=>none)=_
  rw [ih]
  rfl
theorem okF (xs:List Int) (h:xs.length<=1000000):Fe U 5 xs=true:=by
 unfold Fe
 rw [Z3R]
 exact decide_eq_true (by rw [List.length_map];exact Nat.le_trans (Nat.le_trans h (by decide)) Z2a)
theorem strF (a:List Int):(strOf U 5 a).toList=a.map fun n=>UInt8.ofNat n.toNat:=by
 rw [strOf,Z3R]
 simp
theorem Z3b (n:Nat) (h:64<=n):((EY n).drop (Int.toNat 2)).take ((Int.toNat 6) - (Int.toNat 2))=[255,255,255,255]:=by
 show ((EY n).drop 2).take 4=_
 rw [EY,List.drop_replicate,List.take_replicate,Nat.min_eq_left (by omega)]
 rfl
theorem Z3C (n:Nat) (h:64<=n):((EY n).drop 0).take ((Int.toNat 10) - 0)=[255,255,255,255,255,255,255,255,255,255]:=by
 show ((EY n).drop 0).take 10=_
 rw [List.drop_zero,EY,List.take_replicate,Nat.min_eq_left (by omega)]
 rfl
theorem Zkp:WR [255,255,255,255]=some 4294967295:=by
 have s0:WR [255,255,255,255]=AY TR (.b1 [255,255,255,255] 0 3):=(AU _ _).trans rfl
 have st:∀(a b:Int) (k:Nat),k<4->bits .or .i64 (Af (a*2 ^ (8:Nat))) (Af 255)=b->AY TR (.b1 [255,255,255,255] a k)=AY TR (.b1 [255,255,255,255] b (Af ((k:Int) - 1))):=fun a b k hk hb=>(AU _ _).trans (by
  have h2:([255,255,255,255]:List Int)[Int.toNat (k:Int)]? = some 255:=by
   rw [Int.toNat_natCast]
   have:k=0\/k=1\/k=2\/k=3:=by omega
   rcases this with rfl|rfl|rfl|rfl<;>rfl
  simp only [TR,DN,h2,decide_eq_true (show (k:Int)>=0 by omega),cond_true,Option.bind_some,hb,show decide (0<=(k:Int)/\(k:Int)<(([255,255,255,255]:List Int).length:Int))=true from DX k _ hk])
 rw [s0]
 refine(st 0 255 3 (by decide) (by decide)).trans ?_
 refine(st 255 65535 2 (by decide) (by decide)).trans ?_
 refine(st 65535 16777215 1 (by decide) (by decide)).trans ?_
 refine(st 16777215 4294967295 0 (by decide) (by decide)).trans ?_
 exact(AU _ _).trans rfl
theorem Zk9:Qa [255,255,255,255]=some 4294967295:=by
 have s0:Qa [255,255,255,255]=AY MW (.b1 [255,255,255,255] 0 3):=(AU _ _).trans rfl
 have st:∀(a b:Int) (k:Nat),k<4->IntKind.wrap .u64 ((IntKind.wrap .u64 (a*256))+(IntKind.wrap .u64 255))=b->AY MW (.b1 [255,255,255,255] a k)=AY MW (.b1 [255,255,255,255] b (Af ((k:Int) - 1))):=fun a b k hk hb=>(AU _ _).trans (by
  have h2:([255,255,255,255]:List Int)[Int.toNat (k:Int)]? = some 255:=by
   rw [Int.toNat_natCast]
   have:k=0\/k=1\/k=2\/k=3:=by omega
   rcases this with rfl|rfl|rfl|rfl<;>rfl
  simp only [MW,DN,h2,decide_eq_true (show (k:Int)>=0 by omega),cond_true,Option.bind_some,hb,show decide (0<=(k:Int)/\(k:Int)<(([255,255,255,255]:List Int).length:Int))=true from DX k _ hk])
 rw [s0]
 refine(st 0 255 3 (by decide) (by decide)).trans ?_
 refine(st 255 65535 2 (by decide) (by decide)).trans ?_
 refine(st 65535 16777215 1 (by decide) (by decide)).trans ?_
 refine(st 16777215 4294967295 0 (by decide) (by decide)).trans ?_
 exact(AU _ _).trans rfl
theorem Xu (xs:List Int) (h:xs.length<=140737488351232):KC xs=some ⟨xs⟩:=by
 unfold KC
 rw [if_pos ⟨by rw [Nat.mul_one];exact Nat.le_trans h (by decide),Nat.le_trans h (by decide)⟩]
theorem ZgM:∃l:List Int,eQ 4294967295=some (66::l):=by
 have e1:fO 4 4294967295=some (num 4 4294967295):=(AU _ _).trans (by
  simp only [zO,DN]
  rw [Z4v [(⟨4,4294967295⟩:D7)] (fun f hf=>by rw [List.mem_singleton.1 hf];decide) (by decide) (by decide)]
  rfl)
 obtain⟨y,hy⟩:=t_Sum 0 ([66,75]++num 4 4294967295) (by simp [Dw])
 have hc:=Xu ([66,75]++num 4 4294967295) (by simp [Dw])
 have e2:iL 0 ([66,75]++num 4 4294967295)=some (([66,75]++num 4 4294967295)++[(IntKind.wrap .u8 y),(IntKind.wrap .u8 ((Int.fdiv y (2 ^ (8:Nat))))),(IntKind.wrap .u8 ((Int.fdiv y (2 ^ (16:Nat)))))]):=(AU _ _).trans (by
  have DN' :=DN
  obtain⟨d1,d2,d3,d4,d5,d6,d7,d8,d9,d10,-,-⟩:=DN'
  simp only [Z0j,d1,d2,d3,d4,d5,d6,d7,d8,d9,d10,hy,hc,Option.bind_some,show kA (([66,75]++num 4 4294967295).length+3) 1=true from Ky _ _ (by simp [Dw]) (by simp [Dw]),cond_true])
 have e3:fG ([66,75]++num 4 4294967295)=some (66::(75::num 4 4294967295)++[(IntKind.wrap .u8 y),(IntKind.wrap .u8 ((Int.fdiv y (2 ^ (8:Nat))))),(IntKind.wrap .u8 ((Int.fdiv y (2 ^ (16:Nat)))))]++[0]):=(AU _ _).trans (by
  simp only [Z9,DN,e2,Option.bind_some]
  rw [RV _ (by simp [Dw]) (by simp)]
  simp)
 refine⟨(75::num 4 4294967295)++[(IntKind.wrap .u8 y),(IntKind.wrap .u8 ((Int.fdiv y (2 ^ (8:Nat))))),(IntKind.wrap .u8 ((Int.fdiv y (2 ^ (16:Nat)))))]++[0],(AU _ _).trans ?_⟩
 simp only [zF,DN,show IntKind.wrap .u64 (4294967295:Int)=4294967295 from wu64 (by decide) (by decide),e1,Option.bind_some]
 rw [RV _ (by simp [Dw]) (by simp)]
 simp only [List.flatten_cons,List.flatten_nil,List.append_nil,Option.bind_some,e3]
 rfl
theorem ZfY (n:Nat) (h:64<=n):WM (EY n)=some (-1):=(AU _ _).trans (by
 obtain⟨l,hl⟩:=ZgM
 have hq:bT (66::l) [255,255,255,255,255,255,255,255,255,255]=some false:=(AU _ _).trans (by
  have hb:AY Vl (.b1 (66::l) [255,255,255,255,255,255,255,255,255,255] ((66::l:List Int).length:Int) 0)=some false:=(AU _ _).trans (by
   simp only [Vl,DN]
   rw [decide_eq_true (show (0:Int)<((66::l:List Int).length:Int) by simp only [List.length_cons];omega),decide_eq_true (show (0:Int)<=0/\(0:Int)<((66::l:List Int).length:Int) by simp only [List.length_cons];omega)]
   rfl)
  simp only [Vl,DN,hb]
  cases ((66::l:List Int).length:Int) != (([255,255,255,255,255,255,255,255,255,255]:List Int).length:Int)<;>rfl)
 simp only [ZC,DN,IL]
 rw [Z3b n h,Z3C n h,Zkp]
 simp only [Option.bind_some,hl,hq]
 rw [decide_eq_false (by omega),decide_eq_true (by omega),decide_eq_true (show (0:Int)<=10/\(10:Int)<=(n:Int) by omega)]
 rfl)
theorem Zei:∃l:List Int,l.length<=100/\iQ 4294967295=some (66::l):=by
 have n4:OI 4 4294967295=some ⟨num 4 4294967295⟩:=tH 4 (by decide) _ ⟨by decide,by decide⟩
 obtain⟨y,hy⟩:=ZfW 0 ([66,75]++num 4 4294967295) (by simp [Dw])
 have n3:OI 3 (IntKind.wrap .u64 y)=some ⟨num 3 (IntKind.wrap .u64 y)⟩:=tH 3 (by decide) _ (Yx y)
 refine⟨(75::num 4 4294967295)++num 3 (IntKind.wrap .u64 y)++[0],by simp [Dw],(AU _ _).trans ?_⟩
 have DN' :=DN
 obtain⟨d1,d2,d3,d4,d5,d6,d7,d8,d9,d10,-,-⟩:=DN'
 simp only [Z04,d1,d2,d3,d4,d5,d6,d7,d8,d9,d10,show IntKind.wrap .u64 (4294967295:Int)=4294967295 from wu64 (by decide) (by decide),n4,hy,n3,Option.bind_some]
 rw [Ky (2+(num 4 4294967295).length) 1 (by rw [Dw];decide) (by rw [Dw];decide),Ky _ 1 (by simp [Dw]) (by simp [Dw]),Ky _ 1 (by simp [Dw]) (by simp [Dw])]
 rfl
theorem ZgG (n:Nat) (h:64<=n):Wp (EY n)=some (-1):=(AU _ _).trans (by
 obtain⟨l,hl0,hl⟩:=Zei
 simp only [Z0m,DN,IL]
 rw [Z3b n h,Z3C n h,Zk9]
 simp only [Option.bind_some,show Af 4294967295=4294967295 from rfl,hl,strF]
 rw [decide_eq_false (by omega),decide_eq_true (by omega),decide_eq_true (show (0:Int)<=10/\(10:Int)<=(n:Int) by omega),okF _ (by simp),okF (66::l) (by simp;omega)]
 rfl)
def GU (n:Nat):Bj:=⟨H7 n,0,0,n,[]⟩
theorem Zin (n:Nat) (h:64<=n) (h' : n<=65536):iG (H7 n)=some (GU n,0):=(AU _ _).trans (by
 have hc:fP (H7 n)=some (H7 n):=(AU _ _).trans (by
  simp only [Z4,DN,H7]
  rw [RV _ (by simp [IL];omega) (by simp)]
  simp)
 have b3:∀z,AY TP (.b3 n z (GU n) ⟨-1,-1⟩)=some (GU n,0):=fun z=>(AU _ _).trans rfl
 have b2:∀z,AY TP (.b2 n (H7 n) z)=some (GU n,0):=fun z=>(AU _ _).trans (by
  simp only [TP,DN,hc,Option.bind_some]
  simp only [H7,ZfY n h,Option.bind_some]
  exact b3 z)
 simp only [TP,DN,H7,IL,Z44,Option.bind_some,bne_self_eq_false,cond_false]
 rw [decide_eq_true (by omega)]
 exact b2 _)
theorem Zdh (n:Nat) (h:64<=n) (h' : n<=65536):jG (H7 n)=some (GU n,0):=(AU _ _).trans (by
 have hc:kJ (H7 n)=some (H7 n):=(AU _ _).trans (by
  have DN' :=DN
  obtain⟨d1,d2,d3,d4,d5,d6,d7,d8,d9,d10,-,-⟩:=DN'
  simp only [Z1q,d1,d2,d3,d4,d5,d6,d7,d8,d9,d10,H7,IL,show kA (0+n) 1=true from Ky _ _ (by omega) (by omega),cond_true,List.nil_append])
 have b2:∀z,AY Wj (.b2 n (H7 n) z)=some (GU n,0):=fun z=>(AU _ _).trans (by
  simp only [Wj,DN,hc,Option.bind_some]
  simp only [H7,ZgG n h,Option.bind_some]
  rfl)
 simp only [Wj,DN,H7,IL,bne_self_eq_false,cond_false]
 rw [decide_eq_false (by omega),decide_eq_false (by omega)]
 exact b2 _)
structure Px (s:Am):Prop where
 ok:O4 s
 more:∀c∈s.BC,c.More.length<=1000
theorem Z37 (n:Nat) (c:BG):n<=Ef n c/\c.More.length<=Ef n c:=by unfold Ef;omega
theorem Z2J (l:List BG):∀n,n<=l.foldl Ef n:=by
 induction l with
 | nil=>intro n;exact Nat.le_refl _
 | cons a m ih=>intro n;exact Nat.le_trans (Z37 n a).1 (ih _)
theorem Zch (l:List BG):∀n,∀c∈l,c.More.length<=l.foldl Ef n:=by
 induction l with
 | nil=>intro n c h;cases h
 | cons a m ih=>
  intro n c h
  rcases List.mem_cons.1 h with rfl|h
  ·exact Nat.le_trans (Z37 n c).2 (Z2J m _)
  ·exact ih _ c h
theorem Zgb (l:List Am):∀n,n<=l.foldl Gl n:=by
 induction l with
 | nil=>intro n;exact Nat.le_refl _
 | cons a m ih=>intro n;exact Nat.le_trans (Nat.le_trans (Nat.le_succ n) (Z2J a.BC (n+1))) (ih _)
theorem ZdH (l:List Am):∀n,∀s∈l,∀c∈s.BC,c.More.length<=l.foldl Gl n:=by
 induction l with
 | nil=>intro n s h;cases h
 | cons a m ih=>
  intro n s h c hc
  rcases List.mem_cons.1 h with rfl|h
  ·exact Nat.le_trans (Zch s.BC (n+1) c hc) (Zgb m _)
  ·exact ih _ s h c hc
def Gj (xs:List Ac):Prop:=∀a∈xs,a.Value.length<=1000
theorem Gj.ad {xs:List Ac} (h:Gj xs) (t:BB) (p:Int) (v:List Int) (hv:v.length<=1000):Gj (ad xs t p v):=fun a ha=>by
 rcases List.mem_append.1 ha with ha|ha
 ·exact h a ha
 ·rw [List.mem_singleton.1 ha];exact hv
theorem Gj.fold {α:Type} (f:List Ac->α->List Ac) (P:α->Prop) (hf:∀xs x,P x->Gj xs->Gj (f xs x)):∀(l:List α) (xs:List Ac),(∀x∈l,P x)->Gj xs->Gj (l.foldl f xs):=by
 intro l
 induction l with
 | nil=>intro xs _ h;exact h
 | cons a m ih=>intro xs hp h;exact ih _ (fun x hx=>hp x (List.mem_cons_of_mem _ hx)) (hf xs a (hp a List.mem_cons_self) h)
theorem ZbM (l:List Am) (h:∀s∈l,O4 s):Gj (N8 l):=by
 refine Gj.fold LG O4 (fun xs s hs hx=>?_) l [] h (fun a ha=>by cases ha)
 have hen:=Qr s.BL
 refine Gj.fold GN SK (fun xs c hc hx=>?_) s.BC (JL xs s) hs.chars (hx.ad _ _ _ (by omega))
 have hen:=Qr c.BL
 have hv:=hc.val
 have hd:(LD xs.length c).length<=1000:=by simp only [LD,List.length_cons,List.length_append,Dw];omega
 have h1:Gj (JQ xs c):=(hx.ad _ _ _ hd).ad _ _ _ (by omega)
 have h2:Gj (Iw xs c):=by
  unfold Iw
  cases Et c with
  | true=>exact h1.ad _ _ _ (by decide)
  | false=>exact h1
 exact Gj.fold Jt Yk (fun xs a ha hx=>hx.ad _ _ _ (by have:=ha.val;omega)) c.More (Iw xs c) hc.more h2
theorem Zf4 (a:Ac) (h:a.Value.length<=1000):bD a=some a:=(AU _ _).trans (by
 simp only [wS,DN,Xu _ (show a.Value.length<=140737488351232 by omega),Option.bind_some,cond_true])
theorem Zdd (l:List Ac) (hl:l.length<=1000) (h:∀a∈l,a.Value.length<=1000):aB l=some ⟨l⟩:=(AU _ _).trans (by
 have hf:=UH (fun s k=>AY Sv (.b1 s l l.length k)) l (fun s=>some ⟨s⟩) dV (fun i s hi hs=>(AU _ _).trans (by
   have h1:kI (i:Int) s=true:=DX i s (by omega)
   have h3:kI (i:Int) l=true:=DX i l hi
   have h2:s[Int.toNat (i:Int)]? = some s[i]:=Dc i s (by omega)
   simp only [Sv,DN,EJ i l.length hi,Dc i l hi,Zf4 _ (h _ (List.getElem_mem hi)),cond_true,h2,Option.bind_some,VX,beq_self_eq_true,Bool.true_and,decide_eq_true (Nat.zero_le _),show decide (0<=(i:Int)/\(i:Int)<(s.length:Int))=true from h1,show decide (0<=(i:Int)/\(i:Int)<(l.length:Int))=true from h3]
   rw [EK i (by omega),Int.toNat_natCast])) (fun s hs=>(AU _ _).trans (by
   simp only [Sv,DN,FC,cond_false,cond_true]))
 simp only [Sv,DN]
 rw [MC l.length 56 (by omega) (by omega),cond_true]
 simp only [Int.toNat_natCast]
 exact hf)
theorem Z3F (l:List Ac) (hl:l.length<=1000) (h:∀a∈l,a.Value.length<=1000):WG l=some l:=(AU _ _).trans (by
 simp only [Z5,DN,Zdd l hl h,Option.bind_some,cond_true])
theorem ZeE (c:BG) (h:SK c/\c.More.length<=1000):dG c=some c:=(AU _ _).trans (by
 have hv:=h.1.val
 simp only [yL,DN,Xu _ (show c.Value.length<=140737488351232 by omega),Z3F c.More h.2 (fun a ha=>Nat.le_trans (h.1.more a ha).val (by decide)),Option.bind_some,cond_true])
theorem ZcG (l:List BG) (hl:l.length<=1000) (h:∀a∈l,SK a/\a.More.length<=1000):aT l=some ⟨l⟩:=(AU _ _).trans (by
 have hf:=UH (fun s k=>AY TB (.b1 s l l.length k)) l (fun s=>some ⟨s⟩) lK (fun i s hi hs=>(AU _ _).trans (by
   have h1:kI (i:Int) s=true:=DX i s (by omega)
   have h3:kI (i:Int) l=true:=DX i l hi
   have h2:s[Int.toNat (i:Int)]? = some s[i]:=Dc i s (by omega)
   simp only [TB,DN,EJ i l.length hi,Dc i l hi,ZeE _ (h _ (List.getElem_mem hi)),cond_true,h2,Option.bind_some,VX,beq_self_eq_true,Bool.true_and,decide_eq_true (Nat.zero_le _),show decide (0<=(i:Int)/\(i:Int)<(s.length:Int))=true from h1,show decide (0<=(i:Int)/\(i:Int)<(l.length:Int))=true from h3]
   rw [EK i (by omega),Int.toNat_natCast])) (fun s hs=>(AU _ _).trans (by
   simp only [TB,DN,FC,cond_false,cond_true]))
 simp only [TB,DN]
 rw [MC l.length 80 (by omega) (by omega),cond_true]
 simp only [Int.toNat_natCast]
 exact hf)
theorem Z9O (s:Am) (h:Px s):bQ s=some s:=(AU _ _).trans (by
 simp only [xJ,DN,ZcG s.BC (Nat.le_trans h.ok.len (by decide)) (fun c hc=>⟨h.ok.chars c hc,h.more c hc⟩),Option.bind_some,cond_true])
theorem Z9z (l:List Am) (hl:l.length<=1000) (h:∀a∈l,Px a):aH l=some ⟨l⟩:=(AU _ _).trans (by
 have hf:=UH (fun s k=>AY Sz (.b1 s l l.length k)) l (fun s=>some ⟨s⟩) gJ (fun i s hi hs=>(AU _ _).trans (by
   have h1:kI (i:Int) s=true:=DX i s (by omega)
   have h3:kI (i:Int) l=true:=DX i l hi
   have h2:s[Int.toNat (i:Int)]? = some s[i]:=Dc i s (by omega)
   simp only [Sz,DN,EJ i l.length hi,Dc i l hi,Z9O _ (h _ (List.getElem_mem hi)),cond_true,h2,Option.bind_some,VX,beq_self_eq_true,Bool.true_and,decide_eq_true (Nat.zero_le _),show decide (0<=(i:Int)/\(i:Int)<(s.length:Int))=true from h1,show decide (0<=(i:Int)/\(i:Int)<(l.length:Int))=true from h3]
   rw [EK i (by omega),Int.toNat_natCast])) (fun s hs=>(AU _ _).trans (by
   simp only [Sz,DN,FC,cond_false,cond_true]))
 simp only [Sz,DN]
 rw [MC l.length 48 (by omega) (by omega),cond_true]
 simp only [Int.toNat_natCast]
 exact hf)
theorem Zbh:aW []=some ⟨[]⟩:=(AU _ _).trans (by
 simp only [wO,DN]
 rw [show (([]:List Di).length:Int)=((0:Nat):Int) from rfl,MC 0 96 (by decide) (by decide),cond_true]
 exact(AU _ _).trans rfl)
theorem Z9m:aN []=some ⟨[]⟩:=(AU _ _).trans (by
 simp only [wB,DN]
 rw [show (([]:List Dv).length:Int)=((0:Nat):Int) from rfl,MC 0 64 (by decide) (by decide),cond_true]
 exact(AU _ _).trans rfl)
theorem Zc4:aY []=some ⟨[]⟩:=(AU _ _).trans (by
 simp only [wK,DN]
 rw [show (([]:List EM).length:Int)=((0:Nat):Int) from rfl,MC 0 1600 (by decide) (by decide),cond_true]
 exact(AU _ _).trans rfl)
theorem Z9Q:aO []=some ⟨[]⟩:=(AU _ _).trans (by
 simp only [wG,DN]
 rw [show (([]:List DY).length:Int)=((0:Nat):Int) from rfl,MC 0 48 (by decide) (by decide),cond_true]
 exact(AU _ _).trans rfl)
theorem Zbz:Vf []=some ⟨[]⟩:=(AU _ _).trans (by
 simp only [wJ,DN]
 rw [show (([]:List CQ).length:Int)=((0:Nat):Int) from rfl,MC 0 32 (by decide) (by decide),cond_true]
 exact(AU _ _).trans rfl)
theorem ZcW (n:Nat) (hn:n<=65536):dB (GU n)=some (GU n):=(AU _ _).trans (by
 have hc:=Xu (EY n) (by rw [IL];omega)
 have s2:∀z,AY Og (.b1 ⟨EY n,EY n⟩ 2 (GU n) z)=some (GU n):=fun z=>(AU _ _).trans (by
  have e:Vf (GU n).Items=some ⟨[]⟩:=Zbz
  simp only [Og,DN,e,Option.bind_some,show decide ((2:Int)<2)=false from rfl,cond_false]
  rfl)
 have s1:∀z,AY Og (.b1 ⟨EY n,EY n⟩ 1 (GU n) z)=some (GU n):=fun z=>(AU _ _).trans (by
  simp only [Og,DN,hc,Option.bind_some,show decide ((1:Int)<2)=true from rfl,show ((1:Int)==0)=false from rfl,show ((1:Int)==1)=true from rfl,cond_false,cond_true]
  exact s2 z)
 have s0:∀z,AY Og (.b1 ⟨EY n,EY n⟩ 0 (GU n) z)=some (GU n):=fun z=>(AU _ _).trans (by
  simp only [Og,DN,hc,Option.bind_some,show decide ((0:Int)<2)=true from rfl,show ((0:Int)==0)=true from rfl,cond_true]
  exact s1 z)
 exact s0 _)
theorem v_own (c:C9) (hl:c.CO.length<=20) (hs:∀s∈c.CO,Px s)  (db:List Ac) (hb:db.length<=1000) (hv:Gj db) (n:Nat) (hn:n<=65536) :
  iK (⟨c,true,GU n,[],db,[],II,IJ,(⟨0,0⟩:Aa),[],[],0,0⟩:Cb)=some ⟨c,true,GU n,[],db,[],II,IJ,(⟨0,0⟩:Aa),[],[],0,0⟩:=(AU _ _).trans (by
 have a1:aX II=some II:=(AU _ _).trans rfl
 have a2:bH IJ=some IJ:=(AU _ _).trans rfl
 simp only [Z02,DN,Z9z c.CO (by omega) hs,ZcW n hn,Zbh,Z3F db hb hv,Z9m,a1,a2,Zc4,Z9Q,Option.bind_some,cond_true])
theorem nV {R:Type} (F:Int->Option R) (n:Nat) (r:Option R) (hs:∀i:Nat,i<n->F i=F ((i+1:Nat):Int)) (he:F (n:Int)=r):F 0=r:=by
 have key:∀d i:Nat,i+d=n->F i=r:=by
  intro d
  induction d with
  | zero=>intro i hi;rw [show i=n by omega];exact he
  | succ d ih=>intro i hi;exact(hs i (by omega)).trans (ih (i+1) (by omega))
 exact key n 0 (Nat.zero_add n)
theorem ZeO (x:List Int) (h:x.length<=1000000):lD x x=some true:=(AU _ _).trans (by
 simp only [Z17,DN,okF x h,cond_true,beq_self_eq_true])
theorem ZdS (x:List Int) (h:x.length<=1000000):Tu x x=some true:=(AU _ _).trans (by
 simp only [Z1n,DN,okF x h,cond_true,beq_self_eq_true])
theorem Z2B (l:List Ac) (hl:l.length<=1000) (h:Gj l):WV l l=some true:=(AU _ _).trans (by
 have key:=nV (fun i=>AY Nv (.b1 l l i)) l.length (some true) (fun i hi=>(AU _ _).trans (by
   have hv:=h _ (List.getElem_mem hi)
   have b2:AY Nv (.b2 l l i)=AY Nv (.b1 l l ((i+1:Nat):Int)):=(AU _ _).trans (by
    simp only [Nv,DN];rw [EK i (by omega)])
   simp only [Nv,DN,EJ i l.length hi,DX i l hi,Dc i l hi,cond_true,cond_false,Option.bind_some,bne_self_eq_false,beq_self_eq_true,Bool.and_self,Bool.not_true,ZeO _ (Nat.le_trans hv (by decide)),b2]))
  ((AU _ _).trans (by simp only [Nv,DN,FC,cond_false]))
 simp only [Nv,DN,bne_self_eq_false,cond_false]
 exact key)
theorem Z8D (l:List Am) (hl:l.length<=20) (h:∀s∈l,Px s):bV l l=some true:=(AU _ _).trans (by
 have key:=nV (fun i=>AY IG (.b1 l l i)) l.length (some true) (fun i hi=>(AU _ _).trans (by
   have hs:=h _ (List.getElem_mem hi)
   have hcl:=hs.ok.len
   have k3:=nV (fun k=>AY IG (.b3 l l i k l[i] l[i])) l[i].BC.length (AY IG (.b1 l l ((i+1:Nat):Int))) (fun k hk=>(AU _ _).trans (by
     have hc:=hs.ok.chars _ (List.getElem_mem hk)
     have hv:=hc.val
     have hm:=Z2B l[i].BC[k].More (hs.more _ (List.getElem_mem hk)) (fun a ha=>Nat.le_trans (hc.more a ha).val (by decide))
     have b4:AY IG (.b4 l l i k l[i] l[i])=AY IG (.b3 l l i ((k+1:Nat):Int) l[i] l[i]):=(AU _ _).trans (by
      simp only [IG,DN];rw [EK k (by omega)])
     simp only [IG,DN,EJ k l[i].BC.length hk,DX k l[i].BC hk,Dc k l[i].BC hk,cond_true,cond_false,Option.bind_some,bne_self_eq_false,beq_self_eq_true,Bool.and_self,Bool.not_true,okF _ (show l[i].BC[k].Value.length<=1000000 by omega),hm,b4]))
    ((AU _ _).trans (by simp only [IG,DN,FC,cond_false];rw [EK i (by omega)]))
   have b2:AY IG (.b2 l l i l[i] l[i])=AY IG (.b1 l l ((i+1:Nat):Int)):=(AU _ _).trans (by
    simp only [IG,DN];exact k3)
   simp only [IG,DN,EJ i l.length hi,DX i l hi,Dc i l hi,cond_true,cond_false,Option.bind_some,bne_self_eq_false,beq_self_eq_true,Bool.and_self,Bool.not_true,b2]))
  ((AU _ _).trans (by simp only [IG,DN,FC,cond_false]))
 simp only [IG,DN,bne_self_eq_false,cond_false]
 exact key)
theorem Zah (c:C9) (hl:c.CO.length<=20) (h:∀s∈c.CO,Px s):dH c c=some true:=(AU _ _).trans (by
 simp only [yK,DN,beq_self_eq_true,Bool.and_self,cond_true,Z8D c.CO hl h,Option.bind_some])
theorem Zal:dS [] []=some true:=(AU _ _).trans ((AU _ _).trans rfl)
theorem ZbA (s:Bj) (h0:s.Gh.DV.x0.length<=1000000) (h1:s.Gh.DV.x1.length<=1000000) (hi:s.Items=[]):kZ s s=some true:=(AU _ _).trans (by
 have e:dR s.Gh s.Gh=some true:=(AU _ _).trans (by
  simp only [zB,DN,okF _ h0,okF _ h1,cond_true,beq_self_eq_true])
 simp only [Z0X,DN,e,hi,Zal,cond_true,beq_self_eq_true,Option.bind_some])
theorem Z1M (c:C9) (hl:c.CO.length<=20) (h:∀s∈c.CO,Px s) (up:Bool) (s:Bj) (h0:s.Gh.DV.x0.length<=1000000) (h1:s.Gh.DV.x1.length<=1000000) (hi:s.Items=[])
  (db:List Ac) (hb:db.length<=1000) (hv:Gj db) (a:Aa):let x:Cb:=⟨c,up,s,[],db,[],II,IJ,a,[],[],0,0⟩;Tt x x=some true:=by
 intro x
 have e1:kP [] []=some true:=(AU _ _).trans ((AU _ _).trans rfl)
 have e2:dJ [] []=some true:=(AU _ _).trans ((AU _ _).trans rfl)
 have e3:Tm [] []=some true:=(AU _ _).trans ((AU _ _).trans rfl)
 have e4:Vj [] []=some true:=(AU _ _).trans ((AU _ _).trans rfl)
 have e5:Tu [] []=some true:=ZdS [] (by decide)
 have a2:AY XF (.b2 II II)=some true:=(AU _ _).trans rfl
 have a1:AY XF (.b1 II II dQ dQ)=some true:=(AU _ _).trans (by
  simp only [XF,DN,e5,e3,e4,Option.bind_some,Bool.not_true,cond_false]
  exact a2)
 have e6:kY II II=some true:=(AU _ _).trans a1
 have s2:AY XE (.b2 IJ IJ)=some true:=(AU _ _).trans rfl
 have s1:AY XE (.b1 IJ IJ dC dC)=some true:=(AU _ _).trans (by
  simp only [XE,DN,e3,e4,Option.bind_some,Bool.not_true,cond_false]
  exact s2)
 have e7:lT IJ IJ=some true:=(AU _ _).trans s1
 have b4:AY Om (.b4 x x)=some true:=(AU _ _).trans (by
  simp only [Om,DN,x,Zah c hl h,ZbA s h0 h1 hi,e1,Z2B db hb hv,e6,e7,e2,Option.bind_some,cond_true])
 have b3:AY Om (.b3 0 x x)=some true:=(AU _ _).trans (by
  simp only [Om,DN,beq_self_eq_true,Bool.and_self,Bool.not_true,bne_self_eq_false,cond_false,b4]
  rfl)
 have b2:AY Om (.b2 0 x x)=some true:=(AU _ _).trans b3
 have b1:AY Om (.b1 x x)=some true:=(AU _ _).trans b2
 exact(AU _ _).trans b1
structure Pz (c:C9):Prop where
 irk:DI c.DT.Dq
 LJ:DI c.DT.Address.Bits
 len:c.CO.length<=20
 Oc:∀s∈c.CO,SY s
def QB (a:Aa):Bool:=bif a.Kind==1 then true else a.Kind==2
theorem ZdN (a:Aa):jM a=some (QB a):=(AU _ _).trans (by
 simp only [Z0H,DN,QB];cases a.Kind==1<;>rfl)
theorem ZfZ (a:Aa):dY a=some (QB a):=(AU _ _).trans (by
 simp only [zH,DN,QB];cases a.Kind==1<;>rfl)
def O8 (c:C9):Int:=
 bif O3 c.Clock != 0 then O3 c.Clock else bif Ir c.DT.Address != 0 then Ir c.DT.Address else bif !QB c.DT.Address then 12 else
 bif c.Fa&&(c.DT.Dq==0) then 17 else bif c.Fa&&decide (c.Hq<1) then 5 else bif H5 c.Cc != 0 then H5 c.Cc else bif c.Cc.IE then 1 else 0
theorem ZcQ (c:C9) (h:Pz c):dZ c=some (O8 c):=(AU _ _).trans (by
 have b2:AY Q4 (.b2 c)=some (bif H5 c.Cc != 0 then H5 c.Cc else bif c.Cc.IE then 1 else 0):=(AU _ _).trans (by
  simp only [Q4,DN,Z8M,Option.bind_some]
  cases H5 c.Cc != 0<;>cases c.Cc.IE<;>rfl)
 have b1:AY Q4 (.b1 c)=some (bif c.Fa&&decide (c.Hq<1) then 5 else bif H5 c.Cc != 0 then H5 c.Cc else bif c.Cc.IE then 1 else 0):=(AU _ _).trans (by
  simp only [Q4,DN,b2]
  cases c.Fa<;>cases decide (c.Hq<1)<;>rfl)
 simp only [Q4,DN,Z96,Z7C _ h.LJ,ZfZ,b1,Option.bind_some,O8]
 cases O3 c.Clock != 0<;>cases Ir c.DT.Address != 0<;>cases QB c.DT.Address<;>cases c.Fa<;>cases c.DT.Dq==0<;>rfl)
def Gi (l:List Am):List Am:=⟨FY 6145,true,[⟨FY 10757,32,0,[0,0,0,0],[]⟩,⟨FY 11050,2,1,[],[]⟩]⟩::l
theorem oQ (n:Int) (h:Np n):UK (FY n):=⟨⟨by have:=h.1;show 0<=n*4294967296+4096;omega,by have:=h.2;show n*4294967296+4096<18446744073709551616;omega⟩,⟨by show (0:Int)<=9223372588214596859;decide,by show (9223372588214596859:Int)<18446744073709551616;decide⟩⟩
theorem sU (l:List Am) (hl:l.length<=20) (h:∀s∈l,SY s):Uw (Gi l):=⟨by simp only [Gi,List.length_cons];omega,fun s hs=>by
 rcases List.mem_cons.1 hs with rfl|hs
 ·refine⟨oQ _ ⟨by decide,by decide⟩,by decide,fun c hc=>?_⟩
  rcases List.mem_cons.1 hc with rfl|hc
  ·exact⟨oQ _ ⟨by decide,by decide⟩,by decide,by decide,fun a ha=>by cases ha⟩
  ·rcases List.mem_cons.1 hc with rfl|hc
   ·exact⟨oQ _ ⟨by decide,by decide⟩,by decide,by decide,fun a ha=>by cases ha⟩
   ·cases hc
 ·exact h s hs⟩
theorem ZdJ (l:List Am) (hl:l.length<=20) (h:∀s∈l,SY s):eX l=some (IU (Gi l)):=(AU _ _).trans (by
 have hb:=Zhz (Gi l) (sU l hl h)
 have hk:kA (1+l.length) 48=true:=Ky _ _ (by omega) (by omega)
 have DN' :=DN
 obtain⟨d1,d2,d3,d4,d5,d6,d7,d8,d9,d10,-,-⟩:=DN'
 simp only [zU,d1,d2,d3,d4,d5,d6,d7,d8,d9,d10,Qu 10757 ⟨by decide,by decide⟩,Qu 11050 ⟨by decide,by decide⟩,Qu 6145 ⟨by decide,by decide⟩,Option.bind_some,hk,cond_true]
 rw [decide_eq_true (by decide),cond_true]
 exact(congrArg (fun o=>Option.bind o fun x=>some (x.1,x.2)) hb).trans rfl)
theorem Z9C (l:List Am) (hl:l.length<=20):fM l=some (Gi l):=(AU _ _).trans (by
 have hk:kA (1+l.length) 48=true:=Ky _ _ (by omega) (by omega)
 have DN' :=DN
 obtain⟨d1,d2,d3,d4,d5,d6,d7,d8,d9,d10,-,-⟩:=DN'
 simp only [zZ,d1,d2,d3,d4,d5,d6,d7,d8,d9,d10,OB 10757 ⟨by decide,by decide⟩,OB 11050 ⟨by decide,by decide⟩,OB 6145 ⟨by decide,by decide⟩,Option.bind_some,hk,cond_true]
 rfl)
def devV (c:C9) (n:Nat) (db:List Ac):Cb:=⟨c,true,GU n,[],db,[],II,IJ,(⟨0,0⟩:Aa),[],[],0,0⟩
def tailV (c:C9):Cb×Int:=
 bif (IU (Gi c.CO)).2 != 0 then (E8,(IU (Gi c.CO)).2) else bif (JH c.Ea).2 != 0 then (E8,(JH c.Ea).2) else (devV c c.Ea.toNat (IU (Gi c.CO)).1,0)
def LH (c:C9):Cb×Int:=bif O8 c != 0 then (E8,O8 c) else tailV c
structure DevK (c:C9) (db:List Ac):Prop where
 Oc:∀s∈c.CO,Px s
 len:db.length<=1000
 val:Gj db
theorem devK (c:C9) (h:Pz c) (h0:((IU (Gi c.CO)).2 != 0)=false):DevK c (IU (Gi c.CO)).1:=by
 have hk:=sU c.CO h.len h.Oc
 unfold IU at h0 ⊢
 cases he:(Gi c.CO).findSome? JP with
 | some r=>
  rw [he] at h0
  obtain⟨s,-,hs⟩:=List.exists_of_findSome?_eq_some he
  have:=pU hs
  rw [h0] at this
  cases this
 | none=>
  rw [he] at h0
  by_cases hn:(Gi c.CO).foldl Gl 0>1000
  ·simp only [if_pos hn] at h0;cases h0
  ·simp only [if_neg hn]
   have ho:∀s∈Gi c.CO,O4 s:=fun s hs=>(hk.all s hs).ok (List.findSome?_eq_none_iff.1 he s hs)
   refine⟨fun s hs=>⟨ho s (List.mem_cons_of_mem _ hs),fun a ha=>Nat.le_trans (ZdH (Gi c.CO) 0 s (List.mem_cons_of_mem _ hs) a ha) (by omega)⟩,?_,ZbM _ ho⟩
   rw [N8,nR]
   simpa using hn
theorem ZgD (c:C9) (h:Pz c):iR c=some (LH c):=(AU _ _).trans (by
 simp only [Z09,DN,ZcQ c h,Option.bind_some,LH]
 cases O8 c != 0 with
 | true=>rfl
 | false=>
  simp only [cond_false,ZdJ c.CO h.len h.Oc,Option.bind_some,tailV]
  cases h0:(IU (Gi c.CO)).2 != 0 with
  | true=>rfl
  | false=>
   simp only [cond_false,ZiS,Option.bind_some]
   by_cases hm:c.Ea<64\/c.Ea>65536
   ·simp only [JH,if_pos hm];rfl
   ·have hd:=devK c h h0
    have ho:=v_own c h.len hd.Oc _ hd.len hd.val c.Ea.toNat (by omega)
    simp only [JH,if_neg hm,bne_self_eq_false,cond_false,Zin c.Ea.toNat (by omega) (by omega),Option.bind_some,ho]
    rfl)
theorem ZfP (c:C9) (h:Pz c):mX c=some (LH c):=(AU _ _).trans (by
 have b4:∀z,AY OC (.b4 c z)=some (bif H5 c.Cc != 0 then (E8,H5 c.Cc) else bif c.Cc.IE then (E8,1) else tailV c):=fun z=>(AU _ _).trans (by
  simp only [OC,DN,Zb1,Option.bind_some]
  cases H5 c.Cc != 0 with
  | true=>rfl
  | false=>
   cases c.Cc.IE with
   | true=>rfl
   | false=>
    simp only [cond_false,Z9C c.CO h.len,Zce _ (sU c.CO h.len h.Oc),Option.bind_some,tailV]
    cases h0:(IU (Gi c.CO)).2 != 0 with
    | true=>rfl
    | false=>
     simp only [cond_false,ZcN,Option.bind_some]
     by_cases hm:c.Ea<64\/c.Ea>65536
     ·simp only [JH,if_pos hm];rfl
     ·simp only [JH,if_neg hm,bne_self_eq_false,cond_false,Zdh c.Ea.toNat (by omega) (by omega),Option.bind_some]
      rfl)
 have b3:∀z,AY OC (.b3 z)=some (E8,5):=fun z=>(AU _ _).trans rfl
 have b1:∀z,AY OC (.b1 z)=some (E8,17):=fun z=>(AU _ _).trans rfl
 have b2:∀z,AY OC (.b2 c z)=some (bif c.Fa&&decide (c.Hq<1) then (E8,5) else bif H5 c.Cc != 0 then (E8,H5 c.Cc) else bif c.Cc.IE then (E8,1) else tailV c):=fun z=>(AU _ _).trans (by
  simp only [OC,DN,b3,b4]
  cases c.Fa<;>cases decide (c.Hq<1)<;>rfl)
 simp only [OC,DN,Zc5,Zbk _ h.LJ,ZdN,b1,b2,Option.bind_some,LH,O8]
 cases h1:O3 c.Clock != 0 with
 | true=>simp only [cond_true,h1]
 | false=>
  cases h2:Ir c.DT.Address != 0 with
  | true=>simp only [cond_true,cond_false,h2]
  | false=>
   cases QB c.DT.Address with
   | false=>rfl
   | true=>
    cases h6:H5 c.Cc != 0 with
    | true=>cases c.Fa<;>cases c.DT.Dq==0<;>cases decide (c.Hq<1)<;>simp only [cond_true,cond_false,Bool.and_true,Bool.and_false,Bool.true_and,Bool.false_and,Bool.not_true,h6]<;>rfl
    | false=>cases c.Fa<;>cases c.DT.Dq==0<;>cases decide (c.Hq<1)<;>cases c.Cc.IE<;>rfl)
theorem Zf5 (c:C9) (h:Pz c):Tt (LH c).1 (LH c).1=some true:=by
 have hz:Tt E8 E8=some true:=Z1M yC (by decide) (fun s hs=>by cases hs) false W9 (by decide) (by decide) rfl [] (by decide) (fun a ha=>by cases ha) ⟨0,0⟩
 unfold LH
 cases O8 c != 0 with
 | true=>exact hz
 | false=>
  simp only [cond_false,tailV]
  cases h0:(IU (Gi c.CO)).2 != 0 with
  | true=>exact hz
  | false=>
   by_cases hm:c.Ea<64\/c.Ea>65536
   ·simp only [JH,if_pos hm];exact hz
   ·simp only [JH,if_neg hm]
    have hd:=devK c h h0
    exact Z1M c h.len hd.Oc true (GU c.Ea.toNat) (by show (EY c.Ea.toNat).length<=_;rw [IL];omega) (by show (EY c.Ea.toNat).length<=_;rw [IL];omega) rfl _ hd.len hd.val ⟨0,0⟩
theorem ZfO (c:C9) (h:Pz c):DI (LH c).1.GH.DT.Dq:=by
 have hz:DI E8.GH.DT.Dq:=⟨by decide,by decide⟩
 unfold LH tailV
 cases O8 c != 0<;>cases (IU (Gi c.CO)).2 != 0<;>cases (JH c.Ea).2 != 0<;>first|exact hz|exact h.irk
structure SvcR (s:Am):Prop where
 ty:UK s.BL
 len:s.BC.length<=140737488351232
 chars:∀c∈s.BC,VM c
structure ArgK (c:C9):Prop where
 irk:DI c.DT.Dq
 LJ:DI c.DT.Address.Bits
 Oc:∀s∈c.CO,SvcR s
theorem Zh9 (c:C9) (t:Int) (h:Pz c):AY MP (.b2 t c.CO.length c)=some true:=(AU _ _).trans (by
 obtain⟨a,e1,e2⟩:=Zfi (LH c).1 t (ZfO c h)
 simp only [MP,DN,FC,cond_false,ZgD c h,ZfP c h,Zf5 c h,Option.bind_some,beq_self_eq_true,cond_true,e1,e2,Bool.and_self]
 cases (LH c).2 != 0<;>rfl)
theorem Zg5 (c:C9) (t:Int) (h:ArgK c) (hl:c.CO.length<=20):AY MP (.b2 t 0 c)=some true:=by
 have key:=(loop_exit (fun(_:Unit) k=>AY MP (.b2 t k c)) c.CO (fun s=>bif decide ((s.BC.length:Int)>20) then some true else none) (fun s _=>s) (fun _=>some true) (fun k _=>∀(j:Nat) (hj:j<c.CO.length),j<k->c.CO[j].BC.length<=20)
  (fun k s hk r _ he=>(AU _ _).trans ?_) (fun k s hk hi he=>⟨(AU _ _).trans ?_,?_⟩) (fun s hi=>?_) () (fun j hj h0=>absurd h0 (Nat.not_lt_zero j))).1
 ·refine key.trans ?_
  cases hf:c.CO.findSome? (fun s=>bif decide ((s.BC.length:Int)>20) then some true else none) with
  | none=>rfl
  | some r=>
   obtain⟨s,-,hs⟩:=List.exists_of_findSome?_eq_some hf
   cases hd:decide ((s.BC.length:Int)>20) with
   | true=>rw [hd] at hs;exact hs.symm▸rfl
   | false=>rw [hd] at hs;cases hs
 ·cases hd:decide ((c.CO[k].BC.length:Int)>20) with
  | true=>
   rw [hd] at he
   simp only [MP,DN,EJ k _ hk,DX k _ hk,Dc k _ hk,cond_true,Option.bind_some,hd]
   exact he
  | false=>rw [hd] at he;cases he
 ·cases hd:decide ((c.CO[k].BC.length:Int)>20) with
  | true=>rw [hd] at he;cases he
  | false=>
   simp only [MP,DN,EJ k _ hk,DX k _ hk,Dc k _ hk,cond_true,cond_false,Option.bind_some,hd]
   rw [EK k (by omega)]
 ·intro j hj hjk
  by_cases hjk' : j<k
  ·exact hi j hj hjk'
  ·obtain rfl:j=k:=by omega
   cases hd:decide ((c.CO[j].BC.length:Int)>20) with
   | true=>rw [hd] at he;cases he
   | false=>have:=of_decide_eq_false hd;omega
 ·refine Zh9 c t ⟨h.irk,h.LJ,hl,fun s hs=>?_⟩
  obtain⟨j,hj,rfl⟩:=List.getElem_of_mem hs
  have hr:=h.Oc _ hs
  exact⟨hr.ty,hi j hj hj,hr.chars⟩
theorem law (c:C9) (t:Int) (h:ArgK c):xH c t=some true:=(AU _ _).trans (by
 have e0:gI=some true:=rfl
 simp only [MP,DN,e0,Option.bind_some,Bool.not_true,cond_false]
 by_cases hl:(c.CO.length:Int)>20
 ·rw [decide_eq_true hl];rfl
 ·rw [decide_eq_false hl,cond_false]
  have b1:AY MP (.b1 t c)=some true:=(AU _ _).trans (Zg5 c t h (by omega))
  rw [b1]
  cases decide (c.Ea>4096)<;>cases decide (c.Ea<=65536)<;>rfl)
open Go
theorem Zbn:Tryz.pinned.checked.prog.headLifts.contains "ownunsafe" = false:=by kernel_rfl
def Kq:List (String×DataW Unit):=[("wireless/address.prefixes",Rows.laid_wireless_address_prefixes),("wireless/crc.sums",Rows.laid_wireless_crc_sums)]
theorem Yv:varsId Tryz.prog=656:=by kernel_rfl
theorem tie1:Tryz.prog.worded (varsWordLater true)=true:=by kernel_rfl
theorem tie2:Tryz.prog.worded (varsWordLater !true)=false:=by kernel_rfl
theorem tie3:Tryz.prog.worded rootWordLater=true:=by kernel_rfl
theorem tie4:Kq.map (fun x=>Tryz.prog.kindOfLater x.1)=([.data,.data]:List LaidKind).map some:=by kernel_rfl
theorem tie5:(Tryz.prog.funcNamed "gosem.cut.vars").isSome=true:=by kernel_rfl
theorem tie6:varsNamedLaterB Tryz.prog 656 Kq=true:=by kernel_rfl
theorem tie7:∀os tape,varsDone Tryz.prog 400 656 os tape=true:=fun _ _=>by kernel_rfl
theorem tie8:∀os tape,(DataW.laidRun Tryz.prog (varsWorld Tryz.prog 400 656 os tape).memory 8 (Kq.map (·.1))).map (·.1)=some Kq:=fun _ _=>by kernel_rfl
theorem tie9:∀os tape,(DataW.laidRun Tryz.prog (varsWorld Tryz.prog 400 656 os tape).memory 8 (Kq.map (·.1))).map (fun x=>decide x.2.Nodup&&laidRowsB Tryz.prog (varsWorld Tryz.prog 400 656 os tape).memory x.2)=some true:=fun _ _=>by kernel_rfl
theorem tie:Tryz.prog.laidByTextLater [("wireless/address.prefixes",Rows.laid_wireless_address_prefixes),("wireless/crc.sums",Rows.laid_wireless_crc_sums)] [.data,.data] true:=
 Program.laidByTextLater_by_run 400 8 tie1 tie2 tie3 tie4 tie5 (by rw [Yv];exact tie6) (by rw [Yv];exact tie7) (by rw [Yv];exact tie8) (by rw [Yv];exact tie9) (by kernel_rfl)
theorem Z6D:Rows.deviceMakesRow.laidByTextAt .later Tryz.pinned [.data,.data] true:=
 OpenClaim.laidByTextAt_later rfl rfl tie Zbn
end Go.Proofs.YtlabamnhpgoekaaGreatDoor
