/- A part of it. -/
import Derived.Test.YteinepnbndegdaaGreatL4
set_option linter.unusedVariables false
set_option linter.unusedSimpArgs false
namespace Go.Proofs.YteinepnbndegdaaGreat.Le
section
variable {U:CX}
theorem KC {x:SV U.Ty} {k:IntKind} {a:Int} (h:asInt x=some (k,a)):AU U x = .lit (.int k a):=by
 unfold asInt at h;split at h<;>simp_all [AU]
theorem Ou {x:SV U.Ty} {s:ByteArray} (h:J7 x=some s):AU U x = .lit (.string s):=by
 unfold J7 at h;split at h<;>simp_all [AU]
theorem Rf {x:SV U.Ty} {b:Bool} (h:asBool x=some b):AU U x = .lit (.bool b):=by
 unfold asBool at h;split at h<;>simp_all [AU]
theorem Z8c {x:SV U.Ty} {n:Int} {l:Bool} (h:lU x=some (n,l)):∃k,AU U x = .lit (.int k n):=by
 unfold lU at h;split at h<;>simp_all [AU]
theorem ZpI {op:BinOp} {k:IntKind} {a b:Int} {l:Bool} {y:SV U.Ty} (h:(intT op k a b l).AV y):(OI op k a b).map V.lit=some (AU U y):=by
 unfold intT at h;cases op<;>simp only[Tr.AV]at h<;>(try (subst h;rfl))<;>(try (exact h.elim))
 ·split at h
  ·split at h
   ·simp[Tr.AV]at h
   ·rename_i hb;simp only[Tr.AV]at h;subst h;simp[OI,hb,AU]
  ·simp only[Tr.AV,bne_iff_ne,ne_eq]at h;obtain⟨hb,rfl⟩:=h;simp[OI,hb,AU]
 ·split at h
  ·split at h
   ·simp[Tr.AV]at h
   ·rename_i hb;simp only[Tr.AV]at h;subst h;simp[OI,hb,AU]
  ·simp only[Tr.AV,bne_iff_ne,ne_eq]at h;obtain⟨hb,rfl⟩:=h;simp[OI,hb,AU]
theorem Z7R {op:BinOp} {k:IntKind} {a b:Int} {l:Bool} {y:SV U.Ty} (h:(kM op k a b l).AV y):(PK op k a b).map V.lit=some (AU U y):=by
 unfold kM at h;split at h
 ·simp[Tr.AV]at h
 ·rename_i r z;have key:∀(hb:¬b<0) (C:SV.si k r=y),(PK op k a b).map V.lit=some (AU U y):=by
   intro hb C;subst C;unfold PK;unfold Zay at z;split at z<;>simp_all [AU]
  split at h
  ·split at h
   ·simp[Tr.AV]at h
   ·rename_i hb;exact key hb h
  ·simp only[Tr.AV,decide_eq_true_eq]at h
   simp_all
theorem Zq2 {op:BinOp} {x y:ByteArray} {z:SV U.Ty} (h:(strT op x y).AV z):(Vf op x y).map V.lit=some (AU U z):=by
 unfold strT at h;cases op<;>simp only[Tr.AV]at h<;>(try (subst h;rfl))<;>(try (exact h.elim));obtain⟨hb,rfl⟩:=h;simp only[decide_eq_true_eq]at hb;simp[Vf,hb,AU]
theorem Zkm:∀{G:List FK} {xs ys:List (SV U.Ty)} {r:Bool},MP G xs ys=some r->JA G (Aj U xs) (Aj U ys)=some r:=by
 intro G;induction G with
 | nil=>
  intro xs ys r h;unfold MP at h;split at h<;>simp_all [Aj,JA]
 | cons k G I=>
  intro xs ys r h;cases xs with
  | nil=>cases k<;>simp[MP]at h
  | cons x xs=>
   cases ys with
   | nil=>cases k<;>simp[MP]at h
   | cons y ys=>
    cases k with
    | b=>
     simp only[MP]at h;split at h
     ·rename_i a b J z C D;simp only[Option.some.injEq]at h;subst h;simp only[Aj,Rf z,Rf C,JA,I D]
     ·cases h
    | i k=>
     simp only[MP]at h;split at h
     ·rename_i k1 a k2 b J z C D;split at h
      ·rename_i M;simp only[Option.some.injEq]at h;subst h;simp only[Aj,KC z,KC C,JA,I D,M,and_self,if_true]
      ·cases h
     ·cases h
    | s=>
     simp only[MP]at h;split at h
     ·rename_i a b J z C D;simp only[Option.some.injEq]at h;subst h;simp only[Aj,Ou z,Ou C,JA,I D]
     ·cases h
theorem ZpN {E:Env} {op:BinOp} {t:TypeId} {x y z:SV U.Ty} (h:(binT E op t x y).AV z):Lj E op t (AU U x) (AU U y)=some (AU U z):=by
 unfold binT at h;split at h
 ·rename_i xs ys;split at h
  ·rename_i Q D;split at h
   ·rename_i b hb;have:=Zkm hb;split at h
    ·simp only[Tr.AV]at h;subst h;simp only[AU,Lj,D,this,Option.map_some]
    ·simp only[Tr.AV]at h;subst h;simp only[AU,Lj,D,this,Option.map_some]
    ·simp[Tr.AV]at h
   ·simp[Tr.AV]at h
  ·simp[Tr.AV]at h
 ·split at h
  ·rename_i k a j b C hb;rw[KC C,KC hb];split at h
   ·exact Z7R h
   ·exact Z7R h
   ·rename_i I J;split at h
    ·rename_i M;have hi:=ZpI h;subst M;have hb:Lj E op t (.lit (.int k a)) (.lit (.int k b))=(OI op k a b).map V.lit:=by
      cases op<;>first|exact absurd rfl I|exact absurd rfl J|simp[Lj]
     simp_all
    ·simp[Tr.AV]at h
  ·split at h
   ·rename_i a b C hb;rw[Ou C,Ou hb];have:=Zq2 h;unfold Lj;split<;>simp_all
   ·split at h
    ·rename_i a b C hb;rw[Rf C,Rf hb];split at h
     ·rename_i G;split at h
      ·simp only[Tr.AV]at h;subst h;simp[Lj,G,AU]
      ·simp only[Tr.AV]at h;subst h;simp[Lj,G,AU]
      ·simp[Tr.AV]at h
     ·simp[Tr.AV]at h
    ·simp[Tr.AV]at h
theorem Zu3 {op:UnOp} {x z:SV U.Ty} (h:(unT op x).AV z):Yh op (AU U x)=some (AU U z):=by
 unfold unT at h;split at h
 ·rename_i k n C;simp only[Tr.AV]at h;subst h;rw[KC C];rfl
 ·rename_i k n C;simp only[Tr.AV]at h;subst h;rw[KC C];rfl
 ·rename_i b _ hb;simp only[Tr.AV]at h;subst h;rw[Rf hb];rfl
 ·simp[Tr.AV]at h
theorem ZtY {z:Bool} {k:IntKind}:∀{xs:List (SV U.Ty)} {a r:Int},Yf z k a xs=some r->mm z k a (Aj U xs)=some (.lit (.int k r)):=by
 intro xs;induction xs with
 | nil=>intro a r h;simp only[Yf,Option.some.injEq]at h;subst h;rfl
 | cons x xs G=>
  intro a r h;simp only[Yf]at h;split at h
  ·rename_i j b D;split at h
   ·rename_i C;simp only[Aj,KC D,mm,C,if_true];exact C▸G h
   ·cases h
  ·cases h
theorem Z7B {C:Bool} {xs:List (SV U.Ty)} {z:SV U.Ty} (h:(jJ C xs).AV z):PS C (Aj U xs)=some (AU U z):=by
 unfold jJ at h;split at h
 ·rename_i x D;split at h
  ·rename_i k a G;split at h
   ·rename_i r I;simp only[Tr.AV]at h;subst h;simp only[Aj,KC G,PS,AU];exact ZtY I
   ·simp[Tr.AV]at h
  ·simp[Tr.AV]at h
 ·simp[Tr.AV]at h
def LG (z:List (Nat×SV U.Ty)):List (Nat×V):=z.map fun(i,x)=>(i,AU U x)
theorem Z9g {place:Nat->Option (Nat×Nat)}:∀{z:List (Nat×SV U.Ty)} {cs C : List (SV U.Ty)},Qk cs z place=some C -> OG (Aj U cs) (LG z) place=some (Aj U C):=by
 intro z;induction z with
 | nil=>intro cs C h;simp only[Qk,Option.some.injEq]at h;subst h;rfl
 | cons p z M=>
  intro cs C h;obtain⟨i,v⟩:=p;simp only[Qk]at h;split at h
  ·cases h
  ·rename_i off size J;split at h
   ·rename_i hc;simp only[Bool.and_eq_true,beq_iff_eq,decide_eq_true_eq]at hc;obtain⟨⟨G,I⟩,D⟩:=hc;have:=M h;simp only[LG,List.map_cons,OG,J];rw[Ri D,Iu,G,Iu,PI D];simp only[beq_self_eq_true,I,decide_true,Bool.and_self,if_true];rw[<- this];simp only[LG,Eb,List.map_append,List.map_take,List.map_drop]
   ·cases h
theorem cells_toV' {x:SV U.Ty} (h:∀cs,x≠.raw (.agg cs)):(AU U x).cells=Aj U (cellsS x):=by
 cases x with
 | raw v=>
  cases v with
  | agg cs=>exact absurd rfl (h cs)
  | _=>rfl
 | _=>rfl
theorem Z7O {z:V}:Aj U (cellsS (Jb U z))=z.cells:=by
 have G:∀cs,Jb U z≠.raw (.agg cs):=by
  intro cs C;unfold Jb at C;split at C
  ·cases C
  ·rename_i D;unfold Qm at C;split at C<;>(try cases C);simp at D
 rw[<- cells_toV' G,VM]
theorem Zn7 {E:Env} {t:TypeId} {C:List (Nat×SV U.Ty)} {y:SV U.Ty} (h:Z0I E t C=some y):VP E t (LG C)=some (AU U y):=by
 unfold Z0I at h;unfold VP;split at h
 ·rename_i i hi;rw[hi];split at h
  ·rename_i z R;simp only[R];split at h
   ·rename_i M;rw[if_pos M];split at h
    ·rename_i fs G;simp only[G];split at h
     ·rename_i I;rw[if_pos I];cases D:Qk (cellsS (Jb U z)) C (placesOf E fs) with
      | none=>simp[D]at h
      | some cs=>
       simp only[D,Option.map_some,Option.some.injEq]at h;subst h;have:=Z9g D;rw[Z7O]at this;simp only[this,Option.map_some,AU]
     ·cases h
    ·rename_i len e G;simp only[G];split at h
     ·rename_i Q J;simp only[J];cases D:Qk (cellsS (Jb U z)) C (fun i=>some (i*Q.size,Q.size)) with
      | none=>simp[D]at h
      | some cs=>
       simp only[D,Option.map_some,Option.some.injEq]at h;subst h;have:=Z9g D;rw[Z7O]at this;simp only[this,Option.map_some,AU]
     ·cases h
    ·cases h
   ·cases h
  ·cases h
 ·cases h
theorem ZlZ (sz:Nat):∀(vs pre post:List V),(∀v∈vs,v.cells.length=sz/\okV v=true)->vs.length<=post.length ->
  L8 (pre++post) sz ((List.range' pre.length vs.length).zip vs)=some (pre++vs++post.drop vs.length):=by
 intro vs;induction vs with
 | nil=>intro pre post _ _;simp[L8]
 | cons v vs J=>
  intro pre post h C;cases post with
  | nil=>simp at C
  | cons p post=>
   simp only[List.length_cons,List.range'_succ,List.zip_cons_cons,L8];obtain⟨D,G⟩:=h v (by simp);have z:(pre++p::post).set pre.length v=(pre++[v])++post:=by simp
   have:=J (pre++[v]) post (fun x I=>h x (by simp[I])) (by simpa using C);rw[List.length_append,List.length_singleton]at this;rw[D,G,z,this];simp
theorem Zh5 {E:Env} (hU:Cm U E) {k:Nat} {H H' : Au U} {t:TypeId} {n:Nat} {C:List (Nat×SV U.Ty)} {y:SV U.Ty} (h:(yZ E k H t n C).AV (y,H')) :
  MM E k (BC U H) t n (LG C)=some (AU U y,BC U H'):=by
 unfold yZ at h;unfold MM;split at h
 ·rename_i e sz by' z0 hti;rw[hti];simp only;split at h
  ·rename_i ei Y;simp only[Y];split at h
   ·rename_i z hz;simp only[Dn]at h;obtain⟨vs,R,h⟩:=h;split at h
    ·rename_i ys hys;simp only[ER,Tr.AV,Prod.mk.injEq]at h;obtain⟨⟨⟨c1,c2,c3,c4⟩,c5,c6,c7⟩,rfl,rfl⟩:=h;have hp2:(LG C).map (·.2)=Aj U (C.map (·.2)):=by
      rw[Eb];simp[LG]
     have hp1:(LG C).map (·.1)=List.range n:=by rw[<- c5];simp[LG]
     obtain⟨S,d2⟩:=Zl hU hys;have hf:=zF R;have M:(Aj U vs).length=n:=by
      rw[<- Zih hf,Iu,List.length_map,<- List.length_map (f:=(·.1)) (as:=C),c5,List.length_range]
     have G : (ys.map (U.enc e)).length=n:=by rw[<- S,List.length_map,M]
     have I:(n==0 && !(LG C).isEmpty)=false:=by
      cases hn:n with
      | zero=>
       simp_all
      | succ m=>simp
     rw[hz,hp2,hf];simp only;rw[if_pos ⟨c1,c2,c3,c4,I⟩,hp1,S];have D:=ZlZ ei.size (ys.map (U.enc e)) [] (List.replicate n (DX (E.rows e) z)) (by
      intro v hv;rw[<- S]at hv;obtain⟨w,hw,rfl⟩:=List.mem_map.1 hv;rw[Eb]at hw;obtain⟨s,hs,rfl⟩:=List.mem_map.1 hw;have Q:=d2 s hs;rw[XV,Zli];refine⟨?_,PI Q⟩;rw[Ri Q,Iu];simpa using List.all_eq_true.1 c6 s hs) (by rw[G];simp)
     rw[G]at D;simp only[List.length_nil,List.nil_append]at D;rw[show List.range n=List.range' 0 n from List.range_eq_range' ..,D];have J:List.drop n (List.replicate n (DX (E.rows e) z))=[]:=by simp
     rw[J,List.append_nil,QV,ZC,VJ H _ (Z6v R)];simp[AU,BQ,BO,c7]
    ·simp[Tr.AV]at h
   ·simp[Tr.AV]at h
  ·simp[Tr.AV]at h
 ·simp[Tr.AV]at h
theorem ZhS {E:Env} {s:TypeId} {x y:SV U.Ty} {f:Nat} (h:zJ E s x f=some y):Ur E s (AU U x) f=some (AU U y):=by
 unfold zJ at h;unfold Ur;split at h
 ·rename_i fs sz by' z0 z;rw[z];simp only;split at h
  ·rename_i o t D;rw[D];simp only;split at h
   ·rename_i n C;simp only[C];split at h
    ·cases h
    ·rename_i G;rw[if_neg G];split at h
     ·simp only[Option.some.injEq]at h;subst h;rfl
     ·simp only[Option.some.injEq]at h;subst h;rfl
     ·simp only[Option.some.injEq]at h;subst h;rfl
     ·cases h
   ·cases h
  ·cases h
 ·cases h
theorem ZmO {E:Env} {s:TypeId} {x y:SV U.Ty} {f:Nat} (h:Z11 E s x f=some y):V5 E s (AU U x) f=some (AU U y):=by
 unfold Z11 at h;unfold V5;split at h
 ·rename_i fs sz by' z0 cs z;rw[z];simp only[AU];split at h
  ·rename_i o t C;rw[C];simp only;split at h
   ·rename_i i hi;simp only[hi,VI,h,Option.map_some]
   ·cases h
  ·cases h
 ·cases h
theorem XH {L:Type} {n:Int} {lit:Bool} {len:Nat} {k:Nat->Tr U L} {y:L} (h:(Ru n lit len k).AV y):(0<=n/\n<len)/\(k n.toNat).AV y:=by
 unfold Ru at h;split at h
 ·split at h
  ·simp_all
  ·simp[Tr.AV]at h
 ·revert h
  suffices hh:∀l:List Nat,(∀i∈l,i<len)->(l.foldr (fun(i:Nat) z=>Tr.br (n==(i:Int)) (k i) z) .fail).AV y->(0<=n/\n<len)/\(k n.toNat).AV y from
   fun h=>hh _ (fun i hi=>by simpa using hi) h
  intro l;induction l with
  | nil=>intro _ h;simp[Tr.AV]at h
  | cons i l I=>
   intro D h;simp only[List.foldr_cons,Tr.AV,beq_iff_eq]at h;rcases h with ⟨G,C⟩|⟨_,C⟩
   ·simp_all
   simp_all
theorem ZhY {E:Env} {H:Au U} {t:TypeId} {x i y:SV U.Ty} (h:(zW E H t x i).AV y):Ol E (BC U H) t (AU U x) (AU U i)=some (AU U y):=by
 unfold zW at h;unfold Ol;split at h
 ·rename_i kk n ti R M;rw[KC R,M];simp only;split at h
  ·rename_i el G;simp only[G];split at h
   ·rename_i J xs;simp only[ER,Tr.AV,decide_eq_true_eq]at h;obtain⟨C,D,rfl⟩:=h;simp only[AU,List.length_map,D,C,and_self,if_true]
   ·rename_i J xs;simp only[ER,Tr.AV,decide_eq_true_eq]at h;obtain⟨C,D,rfl⟩:=h;simp only[AU,List.length_map,D,C,and_self,if_true]
   ·rename_i id m;obtain⟨J,xs,fl,S,Y,I,Q⟩:=Gw h;simp only[ER,Tr.AV,decide_eq_true_eq]at I;obtain⟨C,D,rfl⟩:=I;simp only[AU,Q,BQ,D,C,and_self,if_true,Nat.zero_add]
   ·rename_i id off len tot;obtain⟨J,xs,fl,S,Y,I,Q⟩:=Gw h;simp only[ER,Tr.AV,decide_eq_true_eq]at I;obtain⟨C,D,rfl⟩:=I;simp only[AU,Q,BQ,D,C,and_self,if_true]
   ·simp[Tr.AV]at h
  ·rename_i len e G;simp only[G];split at h
   ·simp[Tr.AV]at h
   ·rename_i sz z;split at h
    ·obtain⟨hb,h⟩:=XH h;simp only[Tr.AV]at h;subst h;simp only[AU,z,hb,and_self,if_true]
    ·obtain⟨hb,h⟩:=XH h;simp only[Tr.AV]at h;subst h;simp only[AU,z,hb,and_self,if_true]
    ·split at h
     ·rename_i hc;simp only[Bool.and_eq_true,decide_eq_true_eq]at hc;simp only[Tr.AV,decide_eq_true_eq]at h;obtain⟨hb,rfl⟩:=h;simp only[AU,z,hb,and_self,if_true,hc.1,Nat.mul_one,Nat.zero_add]
     ·obtain⟨hb,h⟩:=XH h;simp only[Tr.AV]at h;subst h;simp only[AU,z,hb,and_self,if_true]
    ·obtain⟨hb,h⟩:=XH h;simp only[Tr.AV]at h;subst h;simp only[AU,z,hb,and_self,if_true]
    ·simp[Tr.AV]at h
  ·simp[Tr.AV]at h
 ·simp[Tr.AV]at h
theorem Zp3 {s:ByteArray} {n:Nat} (h:n<s.size):s[n]? = some (s.get! n):=by
 rw[getElem?_pos s n h];cases s with
 | mk d=>
  have z:n<d.size:=h;show some d[n]=some d[n]!
  simp_all
theorem Zmt {E:Env} {t:TypeId} {x i y:SV U.Ty} (h:(Z0H E t x i).AV y):VX E t (AU U x) (AU U i)=some (AU U y):=by
 unfold Z0H at h;unfold VX;split at h
 ·rename_i S n J;rw[KC J];simp only;split at h
  ·rename_i len e sz by' z0 cs z;rw[z];simp only[AU];split at h
   ·rename_i Q C;obtain⟨hb,h⟩:=XH h;rw[Nl]at h;simp only[C,hb,and_self,if_true,VI,h,Option.map_some]
   ·simp[Tr.AV]at h
  ·rename_i sz by' z0 z;rw[z];split at h
   ·rename_i s M;rw[Ou M];split at h
    ·rename_i I;simp only[Tr.AV,decide_eq_true_eq]at h;obtain⟨⟨G,R⟩,rfl⟩:=h;have D:n.toNat<s.size:=by omega
     simp only[I,G,if_true,Zp3 D,Option.map_some,AU]
    ·simp[Tr.AV]at h
   ·simp[Tr.AV]at h
  ·simp[Tr.AV]at h
 ·simp[Tr.AV]at h
theorem gZ {t:Nat} {xs:List (U.Ty t)} {y:SV U.Ty} (h:(Vh t xs).AV y) :
  U.Ag t=1/\∃bs,bytesOf (xs.map (U.enc t))=some bs/\bs.length<=maxLen/\y = .ss ⟨bs.toArray⟩:=by
 unfold Vh at h;simp only[ER,Tr.AV]at h;obtain⟨z,C,D⟩:=h;refine⟨z,?_⟩;unfold Nq at C;unfold strOf at D
 grind
theorem ZnV {E:Env} {H:Au U} {src dst:TypeId} {x y:SV U.Ty} (h:(Z16 E H src dst x).AV y):Hl E (BC U H) src dst (AU U x)=some (AU U y,BC U H):=by
 unfold Z16 at h;simp only[ER]at h;obtain⟨hb,h⟩:=h;simp only[Bool.and_eq_true]at hb;split at h
 ·simp only[Tr.AV]at h;subst h;simp[Hl,AU,hb,EW,elemsOf,bytesOf]
 ·obtain⟨D,bs,C,z,rfl⟩:=gZ h;simp[Hl,AU,hb,EW,elemsOf,D,C,z]
 ·obtain⟨D,bs,C,z,rfl⟩:=gZ h;simp[Hl,AU,hb,EW,elemsOf,D,C,z]
 ·obtain⟨t,xs,fl,D,C,z,G⟩:=Gw h;obtain⟨J,bs,M,Q,rfl⟩:=gZ z;subst C;rename_i id;have I:elemsOf (BC U H) (AU U (.all id xs.length))=some (xs.map (U.enc t)):=by
   simp only[AU,elemsOf,G];simp only[BQ,Nat.zero_add,Nat.le_refl,decide_true,Bool.and_self,if_true,List.drop_zero,Option.some.injEq];exact List.take_of_length_le (by simp)
  simp only[AU]at I;simp only[Hl,AU,hb,I,EW,G,BQ,J,Bool.and_self,beq_self_eq_true,if_true,M,if_pos Q]
 ·obtain⟨t,xs,fl,D,C,z,G⟩:=Gw h;simp only[Tr.AV,decide_eq_true_eq]at z;obtain⟨R,z⟩:=z;obtain⟨J,bs,M,Q,rfl⟩:=gZ z;rename_i id off len tot;have I:elemsOf (BC U H) (AU U (.BK id off len tot))=some ((((xs.drop off).take len)).map (U.enc t)):=by
   simp only[AU,elemsOf,G];simp[BQ,R,List.map_take,List.map_drop]
  simp only[AU]at I;simp only[Hl,AU,hb,I,EW,G,BQ,J,Bool.and_self,beq_self_eq_true,if_true,M,if_pos Q]
 ·simp[Tr.AV]at h
theorem Zot {E:Env} {H:Au U} {src dst:TypeId} {x y:SV U.Ty} (h:(Z1h E H src dst x).AV y):Hl E (BC U H) src dst (AU U x)=some (AU U y,BC U H):=by
 unfold Z1h at h;split at h
 ·rename_i k n D;rw[KC D];unfold Hl;split at h
  ·rename_i j C;simp only[C];split at h
   ·rename_i z;simp only[Tr.AV]at h;subst h;simp[z,AU]
   ·simp[Tr.AV]at h
  ·simp[Tr.AV]at h
 ·split at h
  ·rename_i s z;rw[Ou z];unfold Hl;split at h
   ·rename_i hb;simp only[Tr.AV]at h;subst h;simp only[Bool.and_eq_true]at hb;simp[hb,AU]
   ·simp[Tr.AV]at h
  ·exact ZnV h
end
section
variable {U:CX}
theorem Z8f {H:Au U} {x:SV U.Ty} {e:Nat} {ys:List (U.Ty e)} (h:(kD H x e).AV ys) :
  elemsOf (BC U H) (AU U x)=some (ys.map (U.enc e))/\(EW (BC U H) (AU U x) (U.Ag e)=true):=by
 have D:∀(t:Nat) (xs:List (U.Ty t)),(if h:t=e then Tr.leaf (h▸xs) else Tr.fail:Tr U (List (U.Ty e))).AV ys->∃G:t=e,(G▸xs:List (U.Ty e))=ys:=by
  intro t xs h;split at h
  ·rename_i G;exact⟨G,h⟩
  ·simp[Tr.AV]at h
 unfold kD at h;simp only at h;split at h
 ·simp only[Tr.AV]at h;subst h;exact⟨rfl,rfl⟩
 ·obtain⟨rfl,rfl⟩:=D _ _ h;exact⟨rfl,by simp[AU,EW]⟩
 ·obtain⟨rfl,rfl⟩:=D _ _ h;exact⟨rfl,by simp[AU,EW]⟩
 ·obtain⟨t,xs,fl,M,J,z,C⟩:=Gw h;obtain⟨rfl,rfl⟩:=D _ _ z;subst J;refine⟨?_,by simp[AU,EW,C,BQ]⟩;simp only[AU,elemsOf,C];simp only[BQ,Nat.zero_add,Nat.le_refl,decide_true,Bool.and_self,if_true,List.drop_zero,Option.some.injEq];exact List.take_of_length_le (by simp)
 ·obtain⟨t,xs,fl,M,J,z,C⟩:=Gw h;simp only[Tr.AV,decide_eq_true_eq]at z;obtain⟨I,z⟩:=z;obtain⟨rfl,rfl⟩:=D _ _ z;refine⟨?_,by simp[AU,EW,C,BQ]⟩;simp only[AU,elemsOf,C];simp[BQ,I,List.map_take,List.map_drop]
 ·simp[Tr.AV]at h
theorem Z9n {L:Type} {kd:IntKind} {n:Int} {lit:Bool} {z:Tr U L} {f:SV U.Ty->Tr U L} {y:L}:∀{kvs:List (SV U.Ty)},(Pm kd n lit z f kvs).AV y ->
  (Jq kd n (Aj U kvs)=some none/\z.AV y)\/∃v,Jq kd n (Aj U kvs)=some (some (AU U v))/\(f v).AV y
 | [],h=>.inl ⟨rfl,h⟩
 | [x],h=>by
  cases x with
  | lit v=>cases v<;>simp[Pm,Tr.AV]at h
  | _=>simp[Pm,Tr.AV]at h
 | x::v::r,h=>by
  have key:∀k a,x = .lit (.int k a)->(Jq kd n (Aj U (x::v::r))=some none/\z.AV y)\/∃u,Jq kd n (Aj U (x::v::r))=some (some (AU U u))/\(f u).AV y:=by
   intro k a D;subst D;simp only[Pm,ER]at h;obtain⟨rfl,h⟩:=h;simp only[Aj,AU,Jq,if_true]
   by_cases C:n=a
   ·subst C;simp only[if_true];cases lit with
    | true=>
     grind
    | false=>
     simp only[Bool.false_eq_true,if_false,Tr.AV,beq_self_eq_true,true_and]at h
     grind
   ·rw[if_neg C];refine Z9n (lit:=lit) (z:=z) (f:=f) (kvs:=r) ?_;cases lit with
    | true=>
     simp_all
    | false=>
     have hb:(n==a)=false:=by simpa using C
     simp only[Bool.false_eq_true,if_false,Tr.AV,hb]at h
     simp_all
  cases x with
  | lit c=>
   cases c with
   | int k a=>exact key k a rfl
   | _=>simp[Pm,Tr.AV]at h
  | _=>simp[Pm,Tr.AV]at h
theorem ZoA {E:Env} {t:TypeId} {ok:Bool} {m x y:SV U.Ty} (h:(Z1v E t ok m x).AV y):P5 E t ok (AU U m) (AU U x)=some (AU U y):=by
 unfold Z1v at h;split at h
 ·rename_i k e sz by' z0 kvs kd n I M;simp only[ER]at h;obtain⟨J,h⟩:=h;rw[KC M];simp only[AU,P5,I,J,if_true];rcases Z9n h with ⟨D,C⟩|⟨v,D,C⟩
  ·rw[D];simp only;split at C
   ·rename_i R G;rw[G];simp only;split at C
    ·rename_i z Q;simp only[Tr.AV]at C;subst C;rw[Q];cases ok<;>simp[AU,Aj,VM]
    ·simp[Tr.AV]at C
   ·simp[Tr.AV]at C
  ·rw[D];simp only[Tr.AV]at C;subst C;cases ok<;>simp[AU,Aj]
 ·simp[Tr.AV]at h
theorem ZmD (v:SV U.Ty):AU U (Z1q v)=AU U v:=by cases v<;>rfl
theorem ZkN {E:Env} {k:Nat} {H H' : Au U} {t u:TypeId} {s x y:SV U.Ty} (h:(Z0y E k H t u s x).AV (y,H')) :
  IP E k (BC U H) t u (AU U s) (AU U x)=some (AU U y,BC U H'):=by
 unfold Z0y at h;unfold IP;split at h
 ·rename_i e sz by' z0 S;rw[S];simp only;split at h
  ·rename_i ei Q;simp only[ER,Dn]at h;obtain⟨⟨rfl,I,hz,z⟩,ys,Y,h⟩:=h;obtain⟨e1,e2⟩:=Z8f Y;rw[z]at e2;simp only[Q,beq_self_eq_true,e1];rw[if_pos (by simp[I,e2,hz])];split at h
   ·rename_i id n;obtain⟨t',xs,fl,h1,J,C,M⟩:=Gw h;split at C
    ·rename_i G;subst G;simp only[Tr.AV,Bool.and_eq_true,decide_eq_true_eq,Prod.mk.injEq]at C;obtain⟨⟨l1,l2⟩,rfl,rfl⟩:=C;subst J;simp only[AU,M,List.length_map];simp only[BQ,z,beq_self_eq_true,decide_true,Bool.and_self,if_true,l1,l2,Option.some.injEq,Prod.mk.injEq];refine⟨by simp[AU],?_⟩;rw[PN];simp[BQ,z]
    ·simp[Tr.AV]at C
   ·rename_i id off len tot;obtain⟨t',xs,fl,h1,J,C,M⟩:=Gw h;split at C
    ·rename_i G;subst G;simp only[Tr.AV,Bool.and_eq_true,decide_eq_true_eq,Prod.mk.injEq]at C;obtain⟨⟨l1,l2,l3,l4⟩,rfl,rfl⟩:=C;subst J;subst l1;have R:¬len=xs.length:=by omega
     simp only[AU,M];simp only[BQ,z,beq_self_eq_true,decide_true,Bool.and_self,Bool.and_true,Bool.true_and,R,decide_false,Bool.and_false,Bool.false_and,Bool.false_eq_true,if_false,l2,l3,l4,List.length_map,if_true,Option.some.injEq,Prod.mk.injEq,true_and];rw[PN];simp[BQ,z,List.map_take,List.map_drop]
    ·simp[Tr.AV]at C
   ·simp only[Tr.AV,Bool.and_eq_true,decide_eq_true_eq,Prod.mk.injEq]at h;obtain⟨⟨l1,l2⟩,rfl,rfl⟩:=h;simp only[AU,List.length_map,l1,l2,decide_true,Bool.and_self,if_true,Option.some.injEq,Prod.mk.injEq,true_and];rw[QV];simp[BQ,BO,z]
   ·rename_i t' xs;split at h
    ·rename_i G;subst G;simp only[Tr.AV,Bool.and_eq_true,decide_eq_true_eq,Prod.mk.injEq]at h;obtain⟨⟨l1,l2⟩,h⟩:=h;simp only[AU,List.length_map,z,beq_self_eq_true,l1,l2,decide_true,Bool.and_self,if_true];rcases h with ⟨D,rfl,rfl⟩|⟨D,rfl,rfl⟩
     ·simp[D,AU,z]
     ·simp only[List.isEmpty_map,D,Bool.false_eq_true,if_false,Option.some.injEq,Prod.mk.injEq];refine⟨by simp[AU],?_⟩;rw[QV];simp[BQ,BO,z]
    ·simp[Tr.AV]at h
   ·simp[Tr.AV]at h
  ·simp[Tr.AV]at h
 ·simp[Tr.AV]at h
theorem ZmZ {E:Env} (M:Cm U E) {k:Nat} {H H' : Au U} {dst:TypeId} {x y:SV U.Ty} (h:(Z0P E k H dst x).AV (y,H')):Jm E k (BC U H) dst (AU U x)=some (AU U y,BC U H'):=by
 unfold Z0P at h;split at h
 ·rename_i st e sz by' z0 S G;simp only[ER,Tr.AV,Prod.mk.injEq]at h;obtain⟨⟨I,J⟩,D,rfl,rfl⟩:=h;have key:∀l:List UInt8,(l.all fun b=>(U.Gq e (.si .u8 b.toNat)).isSome)=true->(l.filterMap fun b=>U.Gq e (.si .u8 b.toNat)).map (U.enc e)=l.map fun c=>V.lit (.int .u8 c.toNat):=by
   intro l;induction l with
   | nil=>intro _;rfl
   | cons b l Y=>
    intro R;simp only[List.all_cons,Bool.and_eq_true]at R;cases Q:U.Gq e (.si .u8 b.toNat) with
    | none=>simp_all
    | some a=>
     have:=M.dec _ _ _ Q;simp only[AU,DX,Gl]at this
     simp_all
  have z:(Ku U e st).map (U.enc e)=bytesV st:=key _ D;have C:(Ku U e st).length=st.size:=by
   have:=congrArg List.length z;rw[List.length_map]at this;rw[this];simp only[bytesV,List.length_map];exact Array.length_toList
  rw[Ou S];simp only[Jm,G,I,if_true,AU,C,Option.some.injEq,Prod.mk.injEq,true_and];rw[QV];simp[BQ,BO,J,z]
 ·simp[Tr.AV]at h
theorem Z9u {x:SV U.Ty} {v:Value} (h:Vz x=some v):AU U x = .lit v:=by
 unfold Vz at h;split at h<;>simp_all [AU]
theorem Zps {E:Env} {L:Type} (I:Cm U E) {t:Nat} {xs:List (U.Ty t)} {r:L}:∀{n i:Nat} {k:List Value->Tr U L},(mY xs i n k).AV r->∃vs,((xs.drop i).take n).map (U.enc t)=vs.map V.lit/\vs.length=n/\(k vs).AV r:=by
 intro n;induction n with
 | zero=>intro i k h;exact⟨[],by simp,rfl,h⟩
 | succ n Q=>
  intro i k h;simp only[mY,Tr.AV]at h;obtain⟨x,M,h⟩:=h;split at h
  ·rename_i v J;obtain⟨vs,C,D,G⟩:=Q h;obtain⟨hi,z⟩:=List.getElem?_eq_some_iff.1 M;refine⟨v::vs,?_,by simp[D],G⟩;rw[List.drop_eq_getElem_cons hi,List.take_succ_cons,List.map_cons,List.map_cons,C,z,<- I.encS,Z9u J]
  ·simp[Tr.AV]at h
theorem Zqq {E:Env} (S:Cm U E) {t:TypeId} {x y:SV U.Ty} (h:(arrT E t x).AV y):Vm E t (AU U x)=some (AU U y):=by
 unfold arrT at h;split at h
 ·rename_i n e sz by' z0 Y xs G;simp only[ER]at h;obtain⟨⟨M,Q,R⟩,h⟩:=h;obtain⟨vs,D,h2,J⟩:=Zps S h;simp only[Tr.AV]at J;subst J;rw[List.drop_zero]at D;unfold Vm;have C:n<=xs.length:=by
   have:=congrArg List.length D;simp only[List.length_map,List.length_take]at this;omega
  have I:(xs.map (U.enc Y)).take n=vs.map V.lit:=by rw[<- List.map_take,D]
  have z:(vs.map V.lit).all Ih=true:=by simp[List.all_eq_true,Ih]
  simp only[G,AU,M,Q,R,I,List.length_map,C,z,and_self,if_true]
 ·simp[Tr.AV]at h
theorem Zjc {hi:Option (SV U.Ty)} {n m:Nat} (h:ZA hi n=some m):IM (hi.map (AU U)) n n=some m:=by
 unfold ZA at h;split at h
 ·simpa[IM]using h
 ·simpa[IM,Ij,AU]using h
 ·cases h
theorem ZkO {E:Env} (hU:Cm U E) {H H' : Au U} {n e:Nat} {x y:SV U.Ty} {lo hi Y:Option (SV U.Ty)} (h:(Z0o E H n e x lo hi Y).AV (y,H')) :
  LH E (BC U H) n e (AU U x) (lo.map (AU U)) (hi.map (AU U)) (Y.map (AU U))=some (AU U y,BC U H'):=by
 unfold Z0o at h;split at h
 ·rename_i id i off tot m hm;split at h
  ·rename_i e' k cs hb;split at h
   ·rename_i ys Q;simp only[ER,Tr.AV,Prod.mk.injEq]at h;obtain⟨⟨⟨rfl,rfl,rfl,c4,c5⟩,c6,c7,c8⟩,rfl,rfl⟩:=h;obtain⟨R,d2⟩:=Zl hU Q;have D:∀c∈cs,∃v,AU U c = .lit v:=fun c hc=>by
     have:=List.all_eq_true.1 c8 c hc;obtain⟨v,G⟩:=Option.isSome_iff_exists.1 this;exact⟨v,Z9u G⟩
    have M:(Aj U cs).map (DX (E.rows e))=Aj U cs:=by
     rw[Eb,List.map_map];apply List.map_congr_left;intro c hc;obtain⟨v,G⟩:=D c hc;simp only[Function.comp,G,DX,Gl]
    rw[M]at R;have z:(Aj U cs).all Ih=true:=by
     rw[Eb,List.all_eq_true];intro y hy;obtain⟨c,hc,rfl⟩:=List.mem_map.1 hy;obtain⟨v,G⟩:=D c hc;rw[G];rfl
    have C:(Aj U cs).length=n:=by rw[Eb,List.length_map,c4]
    have I:=ZL hb;unfold LH;simp only[AU,Option.map_none,Zjc hm,I,BO];rw[if_pos ⟨trivial,trivial,C,c5,c6,z⟩];simp only[Option.some.injEq,Prod.mk.injEq,c7,List.map_take,R,true_and];rw[PN];simp only[bump];apply List.ext_getElem?;intro j;rw[List.getElem?_modify,List.getElem?_set]
    by_cases S:id=j
    ·subst S;have J:id<H.length:=(List.getElem?_eq_some_iff.1 hb).1;rw[KH,hb];simp[BQ,BO,AU,Oj,J]
    ·simp[S]
   ·simp[Tr.AV]at h
  ·simp[Tr.AV]at h
 ·simp[Tr.AV]at h
theorem Zoy {E:Env} {H H' : Au U} {t u:TypeId} {d x y:SV U.Ty} (h:(Z1r E H t u d x).AV (y,H')) :
  S9 E (BC U H) t u (AU U d) (AU U x)=some (AU U y,BC U H'):=by
 unfold Z1r at h;unfold S9;split at h
 ·rename_i e sz by' z0 I;rw[I];simp only;split at h
  ·rename_i ei G;simp only[ER,Dn]at h;obtain⟨z,ys,J,h⟩:=h;obtain⟨Q,M⟩:=Z8f J;rw[z]at M;simp only[G,Q];split at h
   ·rename_i id n;obtain⟨t',xs,fl,h1,R,D,S⟩:=Gw h;split at D
    ·rename_i Y;subst Y;simp only[ER,Tr.AV,Prod.mk.injEq]at D;obtain⟨C,rfl,rfl⟩:=D;subst R;simp only[AU,S];simp only[BQ,z,C,beq_self_eq_true,decide_true,Bool.and_self,M,if_true,Option.some.injEq,Prod.mk.injEq,List.length_map];refine⟨by simp[AU],?_⟩;rw[PN];simp[BQ,z,C,List.map_take,List.map_drop]
    ·simp[Tr.AV]at D
   ·simp[Tr.AV]at h
  ·simp[Tr.AV]at h
 ·simp[Tr.AV]at h
theorem Z98 {L:Type} {H:Au U} {x:SV U.Ty} {k:Nat->Tr U L} {y:L} (h:(NJ H x k).AV y):∃n,lenOf (BC U H) (AU U x)=some n/\(k n).AV y:=by
 unfold NJ at h;split at h
 ·rename_i id n;obtain⟨t,xs,fl,G,I,z,C⟩:=Gw h;exact⟨n,by simp[AU,lenOf,C],z⟩
 ·rename_i id off len tot;obtain⟨t,xs,fl,G,I,z,C⟩:=Gw h;exact⟨len,by simp[AU,lenOf,C],z⟩
 ·split at h
  ·rename_i n D;refine⟨n,?_,h⟩;unfold lenT at D;split at D<;>simp_all [AU,lenOf]
  ·simp[Tr.AV]at h
theorem Ze {L:Type} {H:Au U} {x:SV U.Ty} {k:Nat->Tr U L} {y:L} (h:(NJ H x k).AV y):∀v,x≠.raw v:=by
 rintro v rfl
 simp[NJ,lenT,Tr.AV]at h
theorem Zb1 {x:SV U.Ty} (C:∀v,x≠.raw v) (h:SX x=false):∀s,AU U x≠.lit (.string s):=by
 intro s z;unfold SX at h;cases x with
 | raw v=>exact C v rfl
 | lit v=>simp only[AU,V.lit.injEq]at z;subst z;simp[J7]at h
 | ss b=>simp[J7]at h
 | _=>simp[AU]at z
theorem Zar {x:SV U.Ty} (h:SX x=true):∃s,J7 x=some s/\AU U x = .lit (.string s):=by
 unfold SX at h;cases z:J7 x with
 | none=>simp[z]at h
 | some s=>exact⟨s,rfl,Ou z⟩
theorem ZlF {E:Env} {t:TypeId} {x:SV U.Ty} (C:∀v,x≠.raw v):jO E t (AU U x)=ZR E t x:=by
 unfold jO ZR
 by_cases z:SX x=true
 ·obtain⟨s,_,h⟩:=Zar z;rw[h,if_pos z]
 ·rw[if_neg z];have:=Zb1 C (by simpa using z)
  grind
theorem ZmI {E:Env} {H:Au U} {x:SV U.Ty} {n:Nat} {L:Type} {k:Nat->Tr U L} {y:L} (z:(NJ H x k).AV y) (h:Z0M E H x n=true):EW (BC U H) (AU U x) n=true:=by
 unfold Z0M at h;split at h
 ·simp[AU,EW]
 ·simpa[AU,EW]using h
 ·simpa[AU,EW]using h
 ·rename_i id m;unfold NJ at z;obtain⟨t,xs,fl,C,G,I,D⟩:=Gw z;simp only[C]at h;simpa[AU,EW,D,BQ]using h
 ·rename_i id off len tot;unfold NJ at z;obtain⟨t,xs,fl,C,G,I,D⟩:=Gw z;simp only[C]at h;simpa[AU,EW,D,BQ]using h
 ·cases h
theorem ZjV {E:Env} {H:Au U} {t:TypeId} {x:SV U.Ty} {L:Type} {k:Nat->Tr U L} {y:L} (G:(NJ H x k).AV y) (h:zS E H t x=true):PD E (BC U H) t (AU U x)=true:=by
 have M:=Ze G;unfold zS at h;unfold PD;split at h
 ·rename_i C;obtain⟨s,_,I⟩:=Zar C;rw[I];exact h
 ·rename_i C;have J:=Zb1 M (by simpa using C);split
  ·simp_all
  ·split at h
   ·rename_i e _ _ _ D;split at h
    ·rename_i Q z;simp only[D,z];exact ZmI G h
    ·cases h
   ·cases h
theorem Zj {L:Type} {x:Option (SV U.Ty)} {hi d:Nat} {k:Nat->Tr U L} {y:L} (h:(Xz x hi d k).AV y):∃n,IM (x.map (AU U)) hi d=some n/\(k n).AV y:=by
 unfold Xz at h;split at h
 ·exact⟨d,rfl,h⟩
 ·rename_i v;split at h
  ·rename_i C n z;simp only[Tr.AV,decide_eq_true_eq]at h;refine⟨n.toNat,?_,h.2⟩;simp[IM,KC z,Ij,h.1]
  ·simp[Tr.AV]at h
theorem ZmB {E:Env} {H H' : Au U} {t:TypeId} {x y:SV U.Ty} {lo hi mx:Option (SV U.Ty)} (h:(sliceT E H t x lo hi mx).AV (y,H')) :
  Ii E (BC U H) t (AU U x) (lo.map (AU U)) (hi.map (AU U)) (mx.map (AU U))=some (AU U y,BC U H'):=by
 unfold sliceT at h;unfold Ii;split at h
 ·rename_i z;have C:=h;have hraw:=Ze C;rw[if_pos (ZjV C z)];obtain⟨n,hn,ha⟩:=Z98 C;rw[hn];obtain⟨hh,D,hb⟩:=Zj ha;obtain⟨l,G,hc⟩:=Zj hb;simp only[D,G];clear h ha hb;revert hc;intro h;split at h
  ·rename_i m;split at h
   ·simp[Tr.AV]at h
   ·rename_i xh;obtain⟨kk,S,hd⟩:=Zj h;clear h;revert hd;intro h;simp only[Tr.AV,beq_iff_eq]at h;obtain⟨rfl,h⟩:=h;simp only[Option.map_some,IM]at S;simp only[Option.map_some,S];split at h
    ·rename_i e xs;simp only[Tr.AV,Prod.mk.injEq]at h;obtain⟨rfl,rfl⟩:=h;simp[AU,elemsOf,List.map_take,List.map_drop]
    ·rename_i e xs;simp only[Tr.AV,Prod.mk.injEq]at h;obtain⟨rfl,rfl⟩:=h;simp[AU,elemsOf,List.map_take,List.map_drop]
    ·rename_i id n';obtain⟨e,xs,fl,I,Y,J,M⟩:=Gw h;simp only[Tr.AV,Prod.mk.injEq]at J;obtain⟨rfl,rfl⟩:=J;subst Y;have hg:(BC U H).getD id default=BQ U (.row e xs fl):=by simp[List.getD,KH,I]
     have Q:elemsOf (BC U H) (.BK id 0 xs.length xs.length)=some (xs.map (U.enc e)):=by
      simp only[elemsOf,M];simp only[BQ,Nat.zero_add,Nat.le_refl,decide_true,Bool.and_self,if_true,List.drop_zero];rw[List.take_of_length_le (by simp)]
     simp only[AU,Q,if_true,hg];simp only[BQ,Option.some.injEq,Prod.mk.injEq];refine⟨by simp[List.map_take,List.map_drop],?_⟩;rw[VJ H [id] (by intro i hi;simp at hi;subst hi;exact⟨_,_,_,I⟩)]
    ·simp[Tr.AV]at h
  ·simp only[Option.map_none];split at h
   ·simp only[Tr.AV,Prod.mk.injEq]at h;obtain⟨rfl,rfl⟩:=h;simp[AU]
   ·simp only[Tr.AV,Prod.mk.injEq]at h;obtain⟨rfl,rfl⟩:=h;simp[AU,List.map_take,List.map_drop]
   ·simp only[Tr.AV,Prod.mk.injEq]at h;obtain⟨rfl,rfl⟩:=h;simp[AU,List.map_take,List.map_drop]
   ·rename_i id n';have R:n=n' :=by
     unfold NJ at C;obtain⟨e,xs,fl,I,Y,J,M⟩:=Gw C;simpa[AU,lenOf,M]using hn.symm
    subst R;split at h
    ·simp only[Tr.AV,Prod.mk.injEq]at h;obtain⟨rfl,rfl⟩:=h;simp only[Option.map_none,IM,Option.some.injEq]at D G;subst D;subst G;simp[AU]
    ·simp only[Tr.AV,Prod.mk.injEq]at h;obtain⟨rfl,rfl⟩:=h;simp[AU]
   ·simp only[Tr.AV,Prod.mk.injEq]at h;obtain⟨rfl,rfl⟩:=h;simp[AU]
   ·split at h
    ·rename_i s hs;simp only[Tr.AV,Prod.mk.injEq]at h;obtain⟨rfl,rfl⟩:=h;simp[Ou hs,AU]
    ·simp[Tr.AV]at h
 ·simp[Tr.AV]at h
def NH (U:CX) (M:IK U) (call:CV):Prop:=
 ∀g as H v H',(M g as H).AV (v,H')->call g (Aj U as) (BC U H)=some (AU U v,BC U H')
theorem Ji {H H' : Au U} {T:Tr U (SV U.Ty)} {y:SV U.Ty} (h:(JL H T).AV (y,H')):T.AV y/\H' = H:=by
 simp only[JL,Dn,Tr.AV,Prod.mk.injEq]at h
 grind
theorem ZoY {E:Env} {M:IK U} {call:CV} (hU:Cm U E) (R:NH U M call) {k:Nat} {H H' : Au U} {s:List (SV U.Ty)} {c:Call} {o:Oper} {y:SV U.Ty} (hop:o.op = .call c) (h:(Z1u E M k H s c).AV (y,H')) :
  BI call E k (BC U H) (Aj U s) o=some (AU U y,BC U H'):=by
 unfold BI;rw[hop];simp only;unfold Z1u at h;have z:evs E (Aj U s) c.args=Aj U (c.args.toList.map (CQ E s)):=Zah E s c.args.toList;split at h
 ·rename_i b hb;rw[hb];simp only;rw[z];unfold Kw;split at h
  ·rename_i x t C D;rw[C,D];split at h
   ·rename_i Q;have I:=Ze h;obtain⟨n,Y,h⟩:=Z98 h;simp only[Tr.AV,Prod.mk.injEq]at h;obtain⟨rfl,rfl⟩:=h;simp only[Aj,ZlF I,Q,if_true,Y,Option.map_some,AU];rfl
   ·simp[Tr.AV]at h
  ·rename_i a x t u C D;rw[C,D];simp only[Aj];exact ZkN h
  ·rename_i a x t u C D;rw[C,D];simp only[Aj];exact Zoy h
  ·obtain⟨J,rfl⟩:=Ji h;simp only[Z7B J,Option.map_some]
  ·obtain⟨J,rfl⟩:=Ji h;simp only[Z7B J,Option.map_some]
  ·simp[Tr.AV]at h
 ·rename_i f Q;rw[Q];simp only;rw[FX];split at h
  ·rename_i g first caps S
   rw[S];simp only[AU];have G:Aj U first++evs E (Aj U s) c.args++Aj U caps=Aj U (first++c.args.toList.map (CQ E s)++caps):=by
    rw[z];simp only[Eb,List.map_append]
   rw[G];exact R _ _ _ _ _ h
  ·simp[Tr.AV]at h
 ·simp[Tr.AV]at h
theorem Z7S {E:Env} {s:List (SV U.Ty)} (ps:List (Nat×Operand)):(ps.map fun(i,x)=>(i,ev E (Aj U s) x))=LG (ps.map fun(i,x)=>(i,CQ E s x)):=by
 simp[LG,FX]
theorem optEv {E:Env} {s:List (SV U.Ty)} (x:Option Operand):x.map (ev E (Aj U s))=(x.map (CQ E s)).map (AU U):=by
 cases x<;>simp[FX]
theorem Zs9 {E:Env} {M:IK U} {call:CV} (I:Cm U E) (hM:NH U M call) {k:Nat} {H H' : Au U} {s:List (SV U.Ty)} {o:Oper} {y:SV U.Ty} (h:(Yc E M k H s o).AV (y,H')) :
  BI call E k (BC U H) (Aj U s) o=some (AU U y,BC U H'):=by
 unfold Yc at h;split at h
 ·rename_i x hop;simp only[Tr.AV,Prod.mk.injEq]at h;obtain⟨rfl,rfl⟩:=h;unfold BI;rw[hop];simp only[FX]
 ·rename_i hop;unfold BI;rw[hop];simp only;split at h
  ·rename_i e _ _ _ D;simp only[ER,Tr.AV,Prod.mk.injEq]at h;obtain⟨S,rfl,rfl⟩:=h;simp only[D,AU,QV,BQ,BO,S];rfl
  ·simp[Tr.AV]at h
 ·rename_i x hne hop;simp only[Tr.AV,Prod.mk.injEq]at h;obtain⟨rfl,rfl⟩:=h;unfold BI;rw[hop];split<;>simp_all [FX]
 ·rename_i c a b hop;unfold BI;rw[hop];simp only[FX];split at h
  ·rename_i hc;simp only[Tr.AV,Prod.mk.injEq]at h;obtain⟨rfl,rfl⟩:=h;rw[hc];simp[AU]
  ·rename_i hc;simp only[Tr.AV,Prod.mk.injEq]at h;obtain⟨rfl,rfl⟩:=h;rw[hc];simp[AU]
  ·rename_i t hc;rw[hc];simp only[AU];split at h
   ·rename_i x' y' G Q;simp only[Tr.AV,Prod.mk.injEq]at h;obtain⟨rfl,rfl⟩:=h;rw[Rf G,Rf Q];cases t<;>simp[AU]
   ·simp only[Tr.AV,Prod.mk.injEq]at h
    grind
  ·simp[Tr.AV]at h
 ·rename_i t hop;unfold BI;rw[hop];simp only;split at h
  ·rename_i i hi;simp only[hi];split at h
   ·rename_i z hz;simp only[ER,Tr.AV,Prod.mk.injEq]at h;obtain⟨hc,rfl,rfl⟩:=h;simp only[hz,hc,and_self,if_true,AU,QV,BQ,VM]
   ·simp[Tr.AV]at h
  ·simp[Tr.AV]at h
 ·rename_i t x hop;unfold BI;rw[hop];simp only[FX];split at h
  ·rename_i i hi;simp only[ER,Tr.AV,Prod.mk.injEq]at h;obtain⟨⟨C,J⟩,rfl,rfl⟩:=h;simp only[hi,Ri J,Iu,C,PI J,and_self,if_true,AU,QV,BQ]
  ·simp[Tr.AV]at h
 ·rename_i t ps hop;obtain⟨C,rfl⟩:=Ji h;rw[Nl]at C;unfold BI;rw[hop];simp only[Z7S,Zn7 C,Option.map_some]
 ·rename_i t n ps hop;unfold BI;rw[hop];simp only[Z7S];exact Zh5 I h
 ·rename_i t a hop;obtain⟨C,rfl⟩:=Ji h;unfold BI;rw[hop];simp only[FX,Z9l I C,Option.map_some]
 ·rename_i t a v hop;simp only[Dn,Tr.AV,Prod.mk.injEq]at h;obtain⟨H1,C,rfl,rfl⟩:=h;unfold BI;rw[hop];simp only[FX,Zmj I C,Option.map_some];rfl
 ·rename_i x hop;unfold BI;rw[hop];simp only[FX];split at h
  ·rename_i G;simp only[Tr.AV,Prod.mk.injEq]at h;obtain⟨rfl,rfl⟩:=h;simp[G,AU,SA]
  ·rename_i G;simp only[Tr.AV,Prod.mk.injEq]at h;obtain⟨rfl,rfl⟩:=h;simp[G,AU,SA]
  ·rename_i G;simp only[Tr.AV,Prod.mk.injEq]at h;obtain⟨rfl,rfl⟩:=h;simp[G,AU,SA]
  ·rename_i G;simp only[Tr.AV,Prod.mk.injEq]at h;obtain⟨rfl,rfl⟩:=h;simp[G,AU,SA]
  ·simp[Tr.AV]at h
 ·rename_i op t x z _ hop;obtain⟨C,rfl⟩:=Ji h;rw[Dn]at C;obtain⟨v,C,J⟩:=C;have hv:∀(c:Bool) y,(Tr.leaf (if c=true then Z1q v else v):Tr U (SV U.Ty)).AV y->AU U y=AU U v:=fun c y Q=>by
   simp only[Tr.AV]at Q;subst Q;split
   ·exact ZmD v
   ·rfl
  unfold BI;rw[hop];simp only[FX,ZpN C,Option.map_some,hv _ _ J]
 ·rename_i op _ x hop;obtain⟨C,rfl⟩:=Ji h;unfold BI;rw[hop];simp only[FX,Zu3 C,Option.map_some]
 ·rename_i src dst x hop;unfold BI;rw[hop];simp only[FX];split at h
  ·rename_i hb;rw[if_pos hb];exact ZmZ I h
  ·rename_i hb;rw[if_neg hb];obtain⟨C,rfl⟩:=Ji h;simp only[Zot C]
 ·rename_i t l c hop;unfold BI;rw[hop];simp only[FX];split at h
  ·rename_i e _ _ _ D;simp only[D];split at h
   ·rename_i n _ m _ ei hn hm R;obtain⟨k1,hn'⟩:=Z8c hn;obtain⟨k2,Y⟩:=Z8c hm;simp only[hn',Y,R];split at h
    ·rename_i z hz;simp only[hz];split at h
     ·rename_i y0 hy0;simp only[ER,Tr.AV,decide_eq_true_eq,Prod.mk.injEq]at h;obtain⟨⟨c1,c2,c3,c4⟩,⟨c5,c6,c7,c8⟩,rfl,rfl⟩:=h;have hd:=I.dec _ _ _ hy0;rw[VM]at hd;rw[if_pos ⟨c5,c6,c7,c8,c1,c2,c3⟩];simp only[AU,QV,BQ,BO,c4,hd,List.map_replicate,List.length_replicate];rfl
     ·simp[Tr.AV]at h
    ·simp[Tr.AV]at h
   ·simp[Tr.AV]at h
  ·simp[Tr.AV]at h
 ·rename_i t x lo hi mx hop;unfold BI;rw[hop];simp only[FX,optEv];split at h
  ·rename_i n e sz by' z0 D;rw[D];exact ZkO I h
  ·rename_i hna;split
   ·grind
   ·exact ZmB h
 ·rename_i t x hop;obtain⟨C,rfl⟩:=Ji h;unfold BI;rw[hop];simp only[FX,Zqq I C,Option.map_some]
 ·rename_i t x f hop;obtain⟨C,rfl⟩:=Ji h;rw[Nl]at C;unfold BI;rw[hop];simp only[FX,ZhS C,Option.map_some]
 ·rename_i t x f hop;obtain⟨C,rfl⟩:=Ji h;rw[Nl]at C;unfold BI;rw[hop];simp only[FX,ZmO C,Option.map_some]
 ·rename_i t x i hop;obtain⟨C,rfl⟩:=Ji h;unfold BI;rw[hop];simp only[FX,ZhY C,Option.map_some]
 ·rename_i t x i hop;obtain⟨C,rfl⟩:=Ji h;unfold BI;rw[hop];simp only[FX,Zmt C,Option.map_some]
 ·rename_i x i hop;unfold BI;rw[hop];simp only[FX];split at h
  ·rename_i vs hv;obtain⟨C,rfl⟩:=Ji h;rw[Nl]at C;simp[hv,AU,Eb,C]
  ·simp[Tr.AV]at h
 ·rename_i t m x ok hop;obtain⟨C,rfl⟩:=Ji h;unfold BI;rw[hop];simp only[FX,Zoi (ZoA C),Option.map_some]
 ·rename_i f first caps hop
  simp only[Tr.AV,Prod.mk.injEq]at h;obtain⟨rfl,rfl⟩:=h;unfold BI;rw[hop];simp only[AU,evs,Zah]
 ·rename_i c hop;exact ZoY I hM hop h
 ·simp[Tr.AV]at h
theorem ZX {E:Env} {M:IK U} {call:CV} (hU:Cm U E) (hM:NH U M call) {ops:Array Oper} {k i:Nat} {st st' : DI U} (h:(stepT E M ops k i st).AV st') :
  JC call E ops k i (CB U st)=some (CB U st'):=by
 unfold stepT at h;unfold JC;split at h
 ·rename_i ho;simp only[Tr.AV]at h;subst h;rw[ho]
 ·rename_i o ho;rw[ho];simp only at h ⊢;have run:∀(q:DI U),((Yc E M k q.H q.s o).andThen fun r=>Tr.leaf (⟨Qr q.s o.dst r.1,r.2⟩:DI U)).AV st' -> ∃v H1,BI call E k (BC U q.H) (Aj U q.s) o=some (v,H1)/\(⟨setSlot (Aj U q.s) o.dst v,H1⟩:St)=CB U st' :=by
   intro q J;simp only[Dn,Tr.AV]at J;obtain⟨⟨v,H1⟩,Q,rfl⟩:=J;exact⟨_,_,Zs9 hU hM Q,by simp only[CB,Za6]⟩
  have skip:∀(q:DI U),(Tr.leaf (⟨Qr q.s o.dst .no,q.H⟩:DI U):Tr U (DI U)).AV st' -> (⟨setSlot (Aj U q.s) o.dst DT,BC U q.H⟩:St)=CB U st' :=by
   intro q J;simp only[Tr.AV]at J;subst J;simp only[CB,Za6];rfl
  unfold Di;cases hg:o.guard with
  | none=>
   simp only[hg]at h;obtain⟨v,H1,Q,S⟩:=run st h;simp only[CB,Q];rw[S];rfl
  | some jw=>
   obtain⟨j,z⟩:=jw;simp only[hg]at h;split at h
   ·simp[Tr.AV]at h
   ·rename_i d hd;simp only[hd];rw[show (CB U st).s.getD d .und=AU U (st.s.getD d .und) from Uu st.s d];have G:∀(b:Bool) (q:DI U),CB U q=CB U st->AU U (st.s.getD d .und) = .lit (.bool b) ->
      (if b==z then ((Yc E M k q.H q.s o).andThen fun r=>Tr.leaf (⟨Qr q.s o.dst r.1,r.2⟩:DI U)) else (Tr.leaf (⟨Qr q.s o.dst .no,q.H⟩:DI U):Tr U (DI U))).AV st' ->
      (match (match JD (AU U (st.s.getD d .und)) z with
       | none=>none
       | some false=>some (DT,(CB U st).H)
       | some true=>BI call E k (CB U st).H (CB U st).s o) with
      | some (v,H)=>some (⟨setSlot (CB U st).s o.dst v,H⟩:St)
      | none=>none)=some (CB U st'):=by
     intro b q J hv hr;rw[hv,<- J];simp only[JD];split at hr
     ·rename_i hb;obtain⟨v,H1,Q,S⟩:=run q hr;rw[hb];simp only[CB,Q];exact congrArg some S
     ·rename_i hb;have:=skip q hr;rw[show (b==z)=false by simpa using hb];simp only[CB];exact congrArg some this
    split at h
    ·rename_i D;rw[D];have:=skip st h;simp only[AU,JD,CB];exact congrArg some this
    ·rename_i D;refine G true st rfl (by rw[D];rfl) ?_;cases z<;>exact h
    ·rename_i D;refine G false st rfl (by rw[D];rfl) ?_;cases z<;>exact h
    ·rename_i b D;have C:∀R,b=R -> CB U (⟨st.s.set d (.lit (.bool R)),st.H⟩:DI U)=CB U st:=by
      rintro R rfl
      simp only[CB,St.mk.injEq,and_true];rw[Eb,Eb,List.map_set];apply List.ext_getElem?;intro n;rw[List.getElem?_set];split
      ·rename_i Y;subst Y;split
       ·rename_i I;simp only[List.length_map]at I;have:st.s.getD d .und=st.s[d]:=by simp[List.getD,I]
        rw[this]at D;simp[I,D,AU]
       simp_all
      ·rfl
     simp only[Tr.AV]at h;rcases h with ⟨rfl,h⟩|⟨rfl,h⟩
     ·refine G true _ (C true rfl) (by rw[D];rfl) ?_;cases z<;>exact h
     ·refine G false _ (C false rfl) (by rw[D];rfl) ?_;cases z<;>exact h
    ·simp[Tr.AV]at h
theorem ZrL {E:Env} {M:IK U} {call:CV} (I:Cm U E) (G:NH U M call) {ops:Array Oper}:∀{z:List Nat} {st st' : DI U},(opsT E M ops z st).AV st' -> Jt call E ops z (CB U st)=some (CB U st'):=by
 intro z;induction z with
 | nil=>intro st st' h;simp only[opsT,Tr.AV]at h;subst h;rfl
 | cons i z J=>
  intro st st' h;simp only[opsT,Dn]at h;obtain⟨Q,C,D⟩:=h;have:=ZX I G C;simp only[Jt,stepD];rw[show (CB U st).H.length=st.H.length from Oj st.H,this];exact J D
theorem ZB {E:Env} {s:List (SV U.Ty)} {o:Oper}:DR E (Aj U s) o=VS E s o:=by
 unfold DR VS;congr 1;funext x;rw[FX,ZnO]
theorem Zmg {H:Au U} {a:SV U.Ty} {k:Nat} (h:Z0A H a k=true):OB (BC U H) (AU U a) k=true:=by
 unfold Z0A at h;split at h
 ·rename_i id i off tot;simp only[Bool.and_eq_true,beq_iff_eq]at h;obtain⟨C,z⟩:=h;split at z
  ·rename_i e n x hb;simp only[beq_iff_eq]at z;simp only[AU,OB,C,beq_self_eq_true,Bool.true_and,Cc,KH];rw[<- C,hb];simp[BQ,BO,z]
  ·cases z
 ·rename_i id n;simp only[Bool.and_eq_true,beq_iff_eq]at h;obtain⟨C,z⟩:=h;split at z
  ·rename_i t xs fl hb;simp only[AU,OB,C,beq_self_eq_true,Bool.true_and,KH];rw[<- C,hb];simp[BQ]
  ·cases z
 ·cases h
theorem Z8n {base k:Nat} {s0:List (SV U.Ty)} {t:Nat⊕Nat} (h:YK base s0 t=some k):Pj base (Aj U s0) t=some k:=by
 cases t with
 | inl j=>exact h
 | inr d=>
  unfold YK at h;unfold Pj;have:(Aj U s0).getD d .und=AU U (s0.getD d .und):=by
   rw[Eb];simp only[List.getD,List.getElem?_map];cases s0[d]?<;>rfl
  simp only at h ⊢;rw[this];split at h
  ·rename_i z;rw[z];exact h
  ·rename_i z;rw[z];exact h
  ·cases h
theorem Zo8 {E:Env} {ms:List Nat} {lt:List (Nat×(Nat⊕Nat))} {s0:List (SV U.Ty)} {base i:Nat} {s:List (SV U.Ty)} {H:Au U} {o:Oper} (h:Z1t E ms lt s0 base i s H o=true):GR E ms lt (Aj U s0) base i (Aj U s) (BC U H) o=true:=by
 unfold Z1t at h;unfold GR;rw[List.all_eq_true]at h ⊢;intro p D;have h:=h p D;cases z:YK base s0 p.2 with
 | none=>rw[z]at h;cases h
 | some k=>
  rw[z]at h;simp only at h;rw[Z8n z];simp only;have:addrOf E (Aj U s) o=AU U (VK E s o):=by
   unfold addrOf VK;cases Iy o<;>first|exact FX ..|rfl
  rw[this,ZB];split
  ·rename_i C;rw[if_pos C]at h;exact Zmg h
  simp_all
theorem ZoL (v:SV U.Ty):nH (AU U v)=Zbe v:=by cases v<;>rfl
theorem Zmw {E:Env} {s:List (SV U.Ty)} {o:Oper} (h:Z0Z E s o=true):quietAt E (Aj U s) o=true:=by
 unfold Z0Z at h;unfold quietAt;cases hop:o.op with
 | call c=>
  simp only[hop]at h;simp only;cases z:c.callee with
  | value f=>
   cases f with
   | tmp t=>
    simp only[z]at h;simp only;rw[Uu];cases D:(E.quiet&&o.type != 0) with
    | false=>rfl
    | true=>
     simp only[D,Bool.not_true,Bool.false_or]at h ⊢;cases C:s.getD t .und with
     | fn g a b=>
      rw[C]at h;simp only[Z0X,Bool.and_eq_true]at h;simp only[AU,kV,Bool.and_eq_true];refine⟨h.1,?_⟩;rw[Eb,Eb,<- List.map_append,List.all_map];rw[List.all_eq_true]at h ⊢;intro x G;simp only[Function.comp,ZoL];exact h.2 x G
     | _=>rw[C]at h;simp[Z0X]at h
   | _=>rfl
  | _=>rfl
 | _=>rfl
theorem Z9s {E:Env} {ops:Array Oper} {base n:Nat} {s0:List (SV U.Ty)} {o:Oper} (h:lZ E ops base s0 o=some n):Vp E ops base (Aj U s0) o=some n:=by
 unfold lZ at h;unfold Vp;split at h
 ·rename_i t d hop;rw[hop];simp only;cases z:rootOf E ops 12 d with
  | none=>rw[z]at h;cases h
  | some r=>rw[z]at h;exact Z8n h
 ·cases h
theorem Zmz {E:Env} {ops:Array Oper} {ms:List Nat} {lt:List (Nat×(Nat⊕Nat))} {s0:List (SV U.Ty)} {base i:Nat} {s:List (SV U.Ty)} {o:Oper} (h:Z15 E ops ms lt s0 base i s o=true) :
  KL E ops ms lt (Aj U s0) base i (Aj U s) o=true:=by
 unfold Z15 at h;unfold KL;rw[List.all_eq_true]at h ⊢;intro j D;have h:=h j D;cases G:ops[j]? with
 | none=>rfl
 | some J=>
  rw[G]at h;simp only[Bool.or_eq_true,Bool.and_eq_true]at h ⊢;rcases h with h|⟨h1,h2⟩
  ·exact .inl h
  ·refine .inr ⟨?_,?_⟩
   ·rcases h1 with h1|h1|h1
    ·exact .inl h1
    ·exact .inr (.inl h1)
    ·refine .inr (.inr ?_);have C:addrOf E (Aj U s) o=AU U (VK E s o):=by
      unfold addrOf VK;cases Iy o<;>first|exact FX ..|rfl
     split at h1
     ·rename_i n id q z I;rw[Z9s z,C,I];simpa[AU]using h1
     ·cases h1
   ·rcases h2 with h2|h2|h2
    ·exact .inl h2
    ·exact .inr (.inl h2)
    ·refine .inr (.inr ?_);split at h2
     ·rename_i n z;rw[Z9s z,ZB];exact h2
     ·cases h2
theorem Zpb {ops:Array Oper} {base:Nat} {H:Au U} (h:nD ops base H=true):Lc ops base (BC U H)=true:=by
 unfold nD at h;unfold Lc;rw[List.all_eq_true]at h ⊢;intro j z;have h:=h j z;cases C:ops[j]? with
 | none=>rfl
 | some o=>
  rw[C]at h;simp only[Bool.or_eq_true,Bool.not_eq_true']at h ⊢;rcases h with h|h
  ·exact .inl h
  ·refine .inr ?_;rw[show (BC U H)[base+j]? = (H[base+j]?).map (BQ U) from KH _ _];cases hb:H[base+j]? with
   | none=>rw[hb]at h;cases h
   | some b=>
    rw[hb]at h;cases b<;>simp_all [ZaT,BQ,PL,BO]
theorem ZpP {E:Env} {ops:Array Oper} {base m:Nat} {H:Au U} {o:Oper} (h:(!IC E o||(decide (base+m<=H.length)&&(!Hr E o||nD ops base H)))=true) :
  (!IC E o||(decide (base+m<=H.length)&&(!Hr E o||Lc ops base (BC U H))))=true:=by
 simp only[Bool.or_eq_true,Bool.and_eq_true]at h ⊢;rcases h with h|⟨z,h|h⟩
 ·exact .inl h
 ·exact .inr ⟨z,.inl h⟩
 ·exact .inr ⟨z,.inr (Zpb h)⟩
theorem ZmR {E:Env} {M:IK U} {call:CV} (Q:Cm U E) (J:NH U M call) {ops:Array Oper} {ms:List Nat} {lt:List (Nat×(Nat⊕Nat))} {s0:List (SV U.Ty)} {base m i:Nat} {st st' : DI U} (h:(Z0K E M ops ms lt s0 base m i st).AV st') :
  Gp call E ops ms lt (Aj U s0) base m i (CB U st)=some (CB U st'):=by
 unfold Z0K at h;unfold Gp;split at h
 ·rename_i I;simp only[Tr.AV]at h;subst h;rw[I]
 ·rename_i o I;rw[I];simp only[ER]at h ⊢;obtain⟨S,z,h⟩:=h;rw[Bool.and_eq_true,Bool.and_eq_true,Bool.and_eq_true]at z;obtain⟨⟨⟨R,C⟩,D⟩,G⟩:=z;have z :=And.intro D G;rw[show quietAt E (CB U st).s o=true from Zmw R,show KL E ops ms lt (Aj U s0) base i (CB U st).s o=true from Zmz C,Bool.and_true,Bool.and_true];rw[show DR E (CB U st).s o=VS E st.s o from ZB,show (CB U st).H.length=st.H.length from Oj st.H,if_pos (by rw[S,Bool.true_and,Bool.and_eq_true];exact⟨Zo8 z.1,ZpP z.2⟩)];split at h
  ·rename_i hc;rw[if_pos hc];rw[show (CB U st).H[base+i]? = (st.H[base+i]?).map (BQ U) from KH _ _];split at h
   ·rename_i b hb;rw[hb];split at h
    ·rename_i Y;have:b = .dead:=by cases b<;>simp_all [Zb4]
     subst this;simp only[Option.map_some,BQ,PL,Bool.false_eq_true,if_false];exact ZX Q J h
    ·simp[Tr.AV]at h
   ·simp[Tr.AV]at h
  ·rename_i hc;rw[if_neg hc];exact ZX Q J h
theorem Zlt {E:Env} {M:IK U} {call:CV} (I:Cm U E) (G:NH U M call) {ops:Array Oper} {ms:List Nat} {lt:List (Nat×(Nat⊕Nat))} {s0:List (SV U.Ty)} {base m:Nat}:∀{z:List Nat} {st st' : DI U},(Xh E M ops ms lt s0 base m z st).AV st' ->
  Jk call E ops ms lt (Aj U s0) base m z (CB U st)=some (CB U st'):=by
 intro z;induction z with
 | nil=>intro st st' h;simp only[Xh,Tr.AV]at h;subst h;rfl
 | cons i z J=>
  intro st st' h;simp only[Xh,Dn]at h;obtain⟨Q,C,D⟩:=h;simp only[Jk,ZmR I G C];exact J D
theorem Zox {E:Env} {M:IK U} {call:CV} (C:Cm U E) (z:NH U M call) {ops:Array Oper} {st st' : DI U} (h:(mV E M ops st).AV st'):Qa call E ops (CB U st)=some (CB U st'):=by
 unfold mV at h;unfold Qa;have:=Zlt C z h;rw[show (CB U st).H.length=st.H.length from Oj st.H];rw[<- this];congr 1;simp[CB,BC,BQ]
end
section
variable {U:CX}
mutual
def Gn:SV U.Ty->List Nat
 | .all id _=>[id]
 | .BK id _ _ _=>[id]
 | .ptr id _ _ _=>[id]
 | .agg cs=>PR cs
 | .Ap cs=>PR cs
 | .O5 cs=>PR cs
 | .fn _ a b=>PR a++PR b
 | .raw v=>EJ v
 | _=>[]
def PR:List (SV U.Ty)->List Nat
 | []=>[]
 | x::xs=>Gn x++PR xs
end
mutual
def FP (z:Nat->Nat):SV U.Ty->SV U.Ty
 | .all id n=>.all (z id) n
 | .BK id off len tot=>.BK (z id) off len tot
 | .ptr id i off tot=>.ptr (z id) i off tot
 | .agg cs=>.agg (MZ z cs)
 | .Ap cs=>.Ap (MZ z cs)
 | .O5 cs=>.O5 (MZ z cs)
 | .fn f a b=>.fn f (MZ z a) (MZ z b)
 | .raw v=>.raw (Ei z v)
 | v=>v
def MZ (z:Nat->Nat):List (SV U.Ty)->List (SV U.Ty)
 | []=>[]
 | x::xs=>FP z x::MZ z xs
end
mutual
theorem Z8z:∀x:SV U.Ty,EJ (AU U x)=Gn x
 | .all _ _=>by simp only[AU,EJ,Gn]
 | .BK _ _ _ _=>by simp only[AU,EJ,Gn]
 | .ptr _ _ _ _=>by simp only[AU,EJ,Gn]
 | .agg cs=>by simp only[AU,EJ,Gn];exact RX cs
 | .Ap cs=>by simp only[AU,EJ,Gn];exact RX cs
 | .O5 cs=>by simp only[AU,EJ,Gn];exact RX cs
 | .fn _ a b=>by simp only[AU,EJ,Gn];rw[RX a,RX b]
 | .raw v=>by simp only[AU,Gn]
 | .lit _=>by simp only[AU,EJ,Gn]
 | .si _ _=>by simp only[AU,EJ,Gn]
 | .sb _=>by simp only[AU,EJ,Gn]
 | .ss _=>by simp only[AU,EJ,Gn]
 | .nil _=>by simp only[AU,EJ,Gn]
 | .sl _ _=>by simp only[AU,EJ,Gn]
 | .CE _ _=>by simp only[AU,EJ,Gn]
 | .Bj _ _ _ _=>by simp only[AU,EJ,Gn]
 | .TR _ _ _=>by simp only[AU,EJ,Gn]
 | .no=>by simp only[AU,EJ,Gn]
 | .und=>by simp only[AU,EJ,Gn]
theorem RX:∀xs:List (SV U.Ty),DD (Aj U xs)=PR xs
 | []=>rfl
 | x::xs=>by simp only[Aj,DD,PR];rw[Z8z x,RX xs]
end
mutual
theorem Xb (z:Nat->Nat):∀x:SV U.Ty,AU U (FP z x)=Ei z (AU U x)
 | .all _ _=>by simp only[AU,Ei,FP]
 | .BK _ _ _ _=>by simp only[AU,Ei,FP]
 | .ptr _ _ _ _=>by simp only[AU,Ei,FP]
 | .agg cs=>by simp only[AU,Ei,FP];rw[Ot z cs]
 | .Ap cs=>by simp only[AU,Ei,FP];rw[Ot z cs]
 | .O5 cs=>by simp only[AU,Ei,FP];rw[Ot z cs]
 | .fn _ a b=>by simp only[AU,Ei,FP];rw[Ot z a,Ot z b]
 | .raw v=>by simp only[AU,FP]
 | .lit _=>by simp only[AU,Ei,FP]
 | .si _ _=>by simp only[AU,Ei,FP]
 | .sb _=>by simp only[AU,Ei,FP]
 | .ss _=>by simp only[AU,Ei,FP]
 | .nil _=>by simp only[AU,Ei,FP]
 | .sl _ _=>by simp only[AU,Ei,FP]
 | .CE _ _=>by simp only[AU,Ei,FP]
 | .Bj _ _ _ _=>by simp only[AU,Ei,FP]
 | .TR _ _ _=>by simp only[AU,Ei,FP]
 | .no=>by simp only[AU,Ei,FP]
 | .und=>by simp only[AU,Ei,FP]
theorem Ot (z:Nat->Nat):∀xs:List (SV U.Ty),Aj U (MZ z xs)=Fv z (Aj U xs)
 | []=>rfl
 | x::xs=>by simp only[Aj,Fv,MZ];rw[Xb z x,Ot z xs]
end
def retS (e sz:Nat) (H:Au U):SV U.Ty->Tr U (SV U.Ty×Au U)
 | .nil _=>.when (U.Ag e=sz) (.leaf (.sl e [],H))
 | y=>.leaf (y,H)
def SQ:Fk->Au U->SV U.Ty->Tr U (SV U.Ty×Au U)
 | .s e sz,H,x=>(Me H x).andThen fun y=>retS e sz (Pe H (OC x)) y
 | .own e sz,H,x=>(match x with
  | .nil _=>.when (U.Ag e=sz) (.leaf (.all H.length 0,H++[.row e [] none]))
  | .all id n=>.leaf (.all id n,H)
  | _=>.fail)
 | .keep,H,x=>.leaf (x,H)
 | .drop,H,_=>.leaf (.und,H)
def SI:List Fk->Au U->List (SV U.Ty)->Tr U (List (SV U.Ty)×Au U)
 | [],H,[]=>.leaf ([],H)
 | f::fs,H,x::xs=>(SQ f H x).andThen fun r=>(SI fs r.2 xs).andThen fun q=>.leaf (r.1::q.1,q.2)
 | _,_,_=>.fail
def kZ (fl:List Fk) (H:Au U) (x:SV U.Ty):Tr U (SV U.Ty×Au U):=
 match x with
 | .agg cs=>(SI fl H cs).andThen fun r=>.leaf (.agg r.1,r.2)
 | .raw _=>.fail
 | x=>match fl with
  | [f]=>SQ f H x
  | _=>.fail
def SG:List (List Fk)->Au U->List (SV U.Ty)->Tr U (List (SV U.Ty)×Au U)
 | [],H,[]=>.leaf ([],H)
 | f::fs,H,x::xs=>(kZ f H x).andThen fun r=>(SG fs r.2 xs).andThen fun q=>.leaf (r.1::q.1,q.2)
 | _,_,_=>.fail
def PW:Nat->List Bf->Au U->List Nat->List Nat->Tr U (Au U×List Nat)
 | 0,_,_,_,_=>.fail
 | _+1,_,H,[],seen=>.leaf (H,seen)
 | n+1,fb,H,id::z,seen=>
  if seen.contains id then PW n fb H z seen else
  match H[id]?,fb with
  | some (.row _ _ none),.row true::C =>PW n C H z (seen++[id])
  | some (.row _ _ _),.row false::C =>PW n C (Pe H [id]) z (seen++[id])
  | some (.var _ _ x),.var fl::C =>(kZ fl H x).andThen fun r=>(match r.2[id]? with
    | some (.var e m _)=>.when (okS r.1=true) (PW n C (r.2.set id (.var e m r.1)) (z++Gn r.1) (seen++[id]))
    | _=>.fail)
  | _,_=>.fail
def Rt (z:Nat->Nat):KQ U.Ty->KQ U.Ty
 | .var e n x=>.var e n (FP z x)
 | .fvar e n x=>.fvar e n (FP z x)
 | b=>b
def Va (H:Au U) (ids:List Nat):Au U:=ids.map fun id=>Rt (ids.idxOf ·) ((H[id]?).getD .dead)
def V8 (fa:List (List Fk)) (fb:List Bf) (k:Nat) (args:List (SV U.Ty)) (H:Au U):Tr U (List Nat×List (SV U.Ty)×Au U):=
 (SG fa H args).andThen fun r=>(PW 1000 fb r.2 (List.range k++PR r.1) []).andThen fun q=>.leaf (q.2,r.1,q.1)
def YX:Au U->List Nat->Au U->Au U
 | H,[],bs=>H++bs
 | H,id::ids,b::bs=>YX (H.set id b) ids bs
 | H,_::_,[]=>H
def X8 (H:Au U) (ids:List Nat) (z:Au U):Au U:=YX H ids (z.map (Rt (Gy ids H.length)))
theorem Zr7 {e sz:Nat} {H:Au U} {y:SV U.Ty} {r:SV U.Ty×Au U} (h:(retS e sz H y).AV r) (C:∀v,y≠.raw v):AU U r.1=Gl sz (AU U y)/\r.2=H:=by
 unfold retS at h;split at h
 ·simp only[ER,Tr.AV]at h;obtain⟨z,rfl⟩:=h;simp[AU,Gl,z]
 ·simp only[Tr.AV]at h;subst h;refine⟨?_,rfl⟩;cases y with
  | nil D =>simp_all
  | raw v=>exact absurd rfl (C v)
  | _=>simp[AU,Gl]
theorem Zni {H:Au U} {x y:SV U.Ty} (h:(Me H x).AV y):∀v,y≠.raw v:=by
 intro v I;subst I;unfold Me at h;split at h<;>(try (simp[Tr.AV]at h;done))
 ·obtain⟨t,xs,fl,C,D,z,G⟩:=Gw h;simp[Tr.AV]at z
 ·obtain⟨t,xs,fl,C,D,z,G⟩:=Gw h;simp[Tr.AV]at z
theorem Z8v {f:Fk} {H:Au U} {x:SV U.Ty} {r:SV U.Ty×Au U} (h:(SQ f H x).AV r):Ew f (BC U H) (AU U x)=some (AU U r.1,BC U r.2):=by
 cases f with
 | s e sz=>
  simp only[SQ,Dn]at h;obtain⟨y,z,G⟩:=h;obtain⟨C,D⟩:=Zr7 G (Zni z);simp only[Ew,Z05 z,Option.map_some,C,D];rw[Z9e,VJ H _ (zK z)]
 | own e sz=>
  simp only[SQ]at h;split at h
  ·simp only[ER,Tr.AV]at h;obtain⟨I,rfl⟩:=h;simp[Ew,Su,AU,BC,BQ,BO,I]
  ·simp only[Tr.AV]at h;subst h;simp[Ew,Su,AU]
  ·simp[Tr.AV]at h
 | keep=>
  simp only[SQ,Tr.AV]at h;subst h;rfl
 | drop=>
  simp only[SQ,Tr.AV]at h;subst h;rfl
theorem ZnX:∀{fl:List Fk} {H:Au U} {xs:List (SV U.Ty)} {r:List (SV U.Ty)×Au U},(SI fl H xs).AV r->Ef fl (BC U H) (Aj U xs)=some (Aj U r.1,BC U r.2):=by
 intro fl;induction fl with
 | nil=>
  intro H xs r h;cases xs with
  | nil=>simp only[SI,Tr.AV]at h;subst h;rfl
  | cons=>simp[SI,Tr.AV]at h
 | cons f fl D=>
  intro H xs r h;cases xs with
  | nil=>simp[SI,Tr.AV]at h
  | cons x xs=>
   simp only[SI,Dn,Tr.AV]at h;obtain⟨p,z,q,C,rfl⟩:=h;simp only[Aj,Ef,Z8v z,D C]
theorem Z7H {fl:List Fk} {H:Au U} {x:SV U.Ty} {r:SV U.Ty×Au U} (h:(kZ fl H x).AV r):Ho fl (BC U H) (AU U x)=some (AU U r.1,BC U r.2):=by
 unfold kZ at h;split at h
 ·rename_i cs;simp only[Dn,Tr.AV]at h;obtain⟨p,z,rfl⟩:=h;simp only[AU,Ho,ZnX z,Option.map_some]
 ·simp[Tr.AV]at h
 ·rename_i D G;split at h
  ·rename_i f;have z:=Z8v h;unfold Ho;split
   ·rename_i cs C;exfalso;cases x<;>simp_all [AU]
   ·exact z
  ·simp[Tr.AV]at h
theorem Znz:∀{fl:List (List Fk)} {H:Au U} {xs:List (SV U.Ty)} {r:List (SV U.Ty)×Au U},(SG fl H xs).AV r->Eu fl (BC U H) (Aj U xs)=some (Aj U r.1,BC U r.2):=by
 intro fl;induction fl with
 | nil=>
  intro H xs r h;cases xs with
  | nil=>simp only[SG,Tr.AV]at h;subst h;rfl
  | cons=>simp[SG,Tr.AV]at h
 | cons f fl D=>
  intro H xs r h;cases xs with
  | nil=>simp[SG,Tr.AV]at h
  | cons x xs=>
   simp only[SG,Dn,Tr.AV]at h;obtain⟨p,z,q,C,rfl⟩:=h;simp only[Aj,Eu,Z7H z,D C]
theorem Znc:∀{n:Nat} {fb:List Bf} {H:Au U} {z seen:List Nat} {r:Au U×List Nat},(PW n fb H z seen).AV r->G9 n fb (BC U H) z seen=some (BC U r.1,r.2):=by
 intro n;induction n with
 | zero=>intro fb H z seen r h;simp[PW,Tr.AV]at h
 | succ n M=>
  intro fb H z seen r h;cases z with
  | nil=>simp only[PW,Tr.AV]at h;subst h;rfl
  | cons id z=>
   unfold PW at h;unfold G9
   by_cases I:seen.contains id=true
   ·grind
   ·rw[if_neg I]at h ⊢;rw[KH];split at h
    ·rename_i t xs D hb;rw[hb];simp only[Option.map_some,BQ,Bool.and_self,if_true];exact M h
    ·rename_i t xs fl D hb;rw[hb];simp only[Option.map_some,BQ,Bool.and_self,if_true,Bool.false_eq_true,if_false];rw[<- VJ H [id] (fun i hi=>by simp at hi;subst hi;exact⟨t,xs,fl,hb⟩)];exact M h
    ·rename_i e m x fl D hb;rw[hb];simp only[Dn]at h;obtain⟨p,Q,C⟩:=h;simp only[Option.map_some,BQ,BO,Bool.not_false,Bool.and_self,if_true,Z7H Q,KH];split at C
     ·rename_i R S Y G;simp only[ER]at C;obtain⟨J,C⟩:=C;rw[G];simp only[Option.map_some,BQ,BO,PI J,if_true];have:=M C;rw[PN]at this;simp only[BQ,BO]at this;rw[Z8z];exact this
     ·simp[Tr.AV]at C
    ·simp[Tr.AV]at h
theorem iW {fa:List (List Fk)} {fb:List Bf} {k:Nat} {args:List (SV U.Ty)} {H:Au U} {r:List Nat×List (SV U.Ty)×Au U} (h:(V8 fa fb k args H).AV r):pack fa fb k (Aj U args) (BC U H)=some (r.1,Aj U r.2.1,BC U r.2.2):=by
 simp only[V8,Dn,Tr.AV]at h;obtain⟨p,z,q,C,rfl⟩:=h;simp only[pack,Znz z,RX,Znc C]
theorem xI (z:Nat->Nat) (b:KQ U.Ty):BQ U (Rt z b)=EN z (BQ U b):=by
 cases b<;>simp[Rt,BQ,EN,BO,PL,Ry,Fv,Xb]
theorem iH (H:Au U) (ids:List Nat):BC U (Va H ids)=GU (BC U H) ids:=by
 simp only[BC,Va,GU,List.map_map];apply List.map_congr_left;intro id _;simp only[Function.comp,xI];congr 1;rw[List.getElem?_map];cases H[id]?<;>rfl
theorem ZnT:∀(H:Au U) (ids:List Nat) (bs:Au U),BC U (YX H ids bs)=IY (BC U H) ids (BC U bs):=by
 intro H ids;induction ids generalizing H with
 | nil=>intro bs;simp[YX,IY,BC]
 | cons id ids z=>
  intro bs;cases bs with
  | nil=>rfl
  | cons b bs=>
   simp only[YX,z,PN];rfl
theorem ZjH (H:Au U) (ids:List Nat) (z:Au U):BC U (X8 H ids z)=MV (BC U H) ids (BC U z):=by
 simp only[X8,MV,ZnT];congr 1;simp only[BC,List.map_map];apply List.map_congr_left;intro b _;simp[Function.comp,xI]
def VR:List (SV U.Ty)->List FuncId
 | []=>[]
 | .fn f _ _::vs=>f::VR vs
 | .raw v::vs=>La [v]++VR vs
 | _::vs=>VR vs
theorem Zm6 (v:V) (vs:List V):La (v::vs)=La [v]++La vs:=by
 cases v<;>simp[La]
theorem ZkY:∀(vs:List (SV U.Ty)),La (Aj U vs)=VR vs:=by
 intro vs;induction vs with
 | nil=>rfl
 | cons v vs z=>
  simp only[Aj];rw[Zm6,z];cases v<;>simp[AU,La,VR]
end
end Go.Proofs.YteinepnbndegdaaGreat.Le
namespace Go.Proofs.YteinepnbndegdaaGreat.Le
open Go.RowKit (Below)
structure Zbg (k:Nat) (ids:List Nat) (st st' : St):Prop where
 nodup:ids.Nodup
 pre:ids.take k=List.range k
 len:st'.H.length=ids.length
 heap:∀(j id:Nat),ids[j]? = some id->∃b b',st.H[id]? = some b/\b.live=true/\st'.H[j]? = some b' /\ b'.live=true/\b'.row=b.row/\(b'.Dc=true->b.Dc=true)/\b'.elem=b.elem/\b'.Ag=b.Ag /\
  (b.floor<=b'.floor\/b'.floor=b'.xs.length)/\b'.floor<=b'.xs.length/\(b.row=true->b'.xs=b.xs)/\(b.row=false->b'.xs=Fv (ids.idxOf ·) b.xs/\∀r∈DD b.xs,r∈ids)
 slen:st'.s.length=st.s.length
 slots:∀(i:Nat) (v' : V),st'.s[i]? = some v' -> v' = .und\/∃v,st.s[i]? = some v/\v' = Ei (ids.idxOf ·) v/\∀r∈EJ v,r∈ids
theorem zH {σ:Sg} {w:World}:∀{xs:List V} {vs:List Value},xs.length=vs.length->(∀(i:Nat) (x:V) (v:Value),xs[i]? = some x->vs[i]? = some v->AL σ w [x] [v])->AL σ w xs vs:=by
 intro xs;induction xs with
 | nil=>intro vs z _;cases vs with|nil=>exact .nil|cons=>simp at z
 | cons x xs G=>
  intro vs z h;cases vs with
  | nil=>simp at z
  | cons v vs=>exact AL.Dk.2 ⟨h 0 x v rfl rfl,G (by simpa using z) (fun i y u C D=>h (i+1) y u (by simpa using C) (by simpa using D))⟩
theorem ZrJ {E:Env} {B:Nat} {w0:Start} {σ:Sg} {st st' : St} {a:Act} {w:World} {k:Nat} {ids:List Nat} (S:Zbg k ids st st') (h:EK E B w0 σ st a w):EK E B w0 (σ.ren ids) st' a w:=by
 have M:∀{j:Nat} {L:Loc},(σ.ren ids).box j=some L->∃id,ids[j]? = some id/\σ.box id=some L:=by
  intro j L Y;simp only[Sg.ren]at Y;cases hj:ids[j]? with
  | none=>simp[hj]at Y
  | some id=>simp_all
 have G:∀{j:Nat} {R : Box},st'.H[j]? = some R -> ∃id,ids[j]? = some id:=by
  intro j R hb;have hlt:=(List.getElem?_eq_some_iff.1 hb).1;rw[S.len]at hlt;exact⟨ids[j],List.getElem?_eq_getElem hlt⟩
 have hnom:∀(j g:Nat),(σ.ren ids).mp j=some g->False:=by
  intro j g hm;simp only[Sg.ren,Option.bind_eq_some_iff]at hm;obtain⟨id,hj,hm⟩:=hm;obtain⟨b,R,k1,k2,_⟩:=S.heap j id hj;obtain⟨_,_,_,b2,hb2,hmb⟩:=h.inv.maps.dom id g hm;rw[k1]at hb2;cases hb2;have:=Nk hmb
  simp_all
 have hmaps:Nu B w0 (σ.ren ids) st'.H w:=by
  refine⟨fun j R hb hm=>?_,fun j g hm=>(hnom j g hm).elim,fun j _ g hm _=>(hnom j g hm).elim⟩;exfalso;obtain⟨id,C⟩:=G hb;obtain⟨b,b2,p1,p2,p3,p4,_⟩:=S.heap j id C;rw[hb]at p3;cases p3;have:=Nk hm
  simp_all
 refine⟨⟨h.inv.below,h.inv.size,?_,?_,?_,h.inv.cells,?_,?_,h.inv.old,fun b hb=>?_,hmaps⟩,h.D5.bare (fun b c hh=>⟨hh,rfl⟩),?_,h.calm⟩
 ·intro j L Y;obtain⟨id,h1,h2⟩:=M Y;obtain⟨b,R,_,_,q1,q2,_⟩:=S.heap j id h1;exact⟨R,q1,.inl q2⟩
 ·intro j R hb hl;obtain⟨id,C⟩:=G hb;obtain⟨b,b2,p1,p2,p3,p4,p5,p6,p7,p8,p9,p10,I,J⟩:=S.heap j id C;rw[hb]at p3;cases p3;obtain⟨L,Y,D⟩:=h.inv.boxes id b p1 p2;obtain⟨us,r1,r2,r3,r4⟩:=D.Cj;refine⟨L,by simp[Sg.ren,C,Y],?_⟩;have Q:R.xs.length=b.xs.length:=by
   cases z:b.row with
   | true=>rw[I z]
   | false=>rw[(J z).1,xO]
  have hreps:AL (σ.ren ids) w R.xs us:=by
   cases z:b.row with
   | true=>rw[I z];exact r1.bare (fun b c hh=>⟨hh,rfl⟩) ((JU _).2 (D.Gg z))
   | false=>rw[(J z).1];exact VH r1 (J z).2
  refine⟨by rw[Q];exact D.tot,⟨us,hreps,r2,r3,by rw[p7,Q];exact r4⟩,fun hn=>D.Dc (p6 hn),by rw[p8];exact D.Ag,?_,?_⟩
  ·intro x hx;cases z:b.row with
   | true=>rw[I z]at hx;exact D.oks x hx
   | false=>
    rw[(J z).1,Zw]at hx;obtain⟨y,hy,rfl⟩:=List.mem_map.1 hx;rw[Z9O];exact D.oks y hy
  ·intro z x hx;rw[p5]at z;rw[I z]at hx;exact D.Gg z x hx
 ·intro j j' b1 b2 L1 L2 g h1 h2 l1 l2 s1 s2 g1 g2;obtain⟨i1,e1,t1⟩:=M s1;obtain⟨i2,e2,t2⟩:=M s2;obtain⟨c1,_,p1,p2,_⟩:=S.heap j i1 e1;obtain⟨c2,_,q1,q2,_⟩:=S.heap j' i2 e2;have:=h.inv.apart i1 i2 c1 c2 L1 L2 g p1 q1 p2 q2 t1 t2 g1 g2;subst this;exact Z8o S.nodup e1 e2
 ·intro b c hc j R L hb hl Y hg;obtain⟨id,C,hL'⟩:=M Y;obtain⟨b0,b2,p1,p2,p3,p4,p5,p6,p7,p8,p9,p10,I,J⟩:=S.heap j id C;rw[hb]at p3;cases p3;have:=h.inv.floor b c hc id b0 L p1 p2 hL' hg;have Q:R.xs.length=b0.xs.length:=by
   cases z:b0.row with
   | true=>rw[I z]
   | false=>rw[(J z).1,xO]
  have hle:b0.floor<=R.floor:=by
   rcases p9 with p9|p9
   ·exact p9
   ·rw[p9,Q];exact h.inv.low id b0 p1 p2
  exact Nat.lt_of_lt_of_le this (Nat.mul_le_mul_right _ hle)
 ·intro j R hb hl;obtain⟨id,C⟩:=G hb;obtain⟨b0,b2,p1,p2,p3,p4,p5,p6,p7,p8,p9,p10,I,J⟩:=S.heap j id C
  simp_all
 ·obtain⟨k1,k2,k3,k4⟩:=h.inv.kept b hb;refine⟨k1,k2,fun j L Y hg=>?_,k4⟩
  grind
 ·refine zH (by rw[S.slen];exact h.slots.length) (fun i x v hx hv=>?_);rcases S.slots i x hx with rfl|⟨y,hy,rfl,hc⟩
  ·exact .und _ .nil
  ·obtain⟨u,hu,z⟩:=h.slots.get hy;rw[hv]at hu;cases hu;exact VH z (by simpa[DD]using hc)
def spread {α:Type} (u:α) (n:Nat):List Nat->List α->List α
 | k::z,v::vs=>(spread u n z vs).set k v
 | _,_=>List.replicate n u
theorem ZiP {α:Type} (u:α) (n:Nat):∀(z:List Nat) (vs:List α),(spread u n z vs).length=n:=by
 intro z;induction z with
 | nil=>intro vs;simp[spread]
 | cons k z C=>intro vs;cases vs<;>simp[spread,C]
theorem Zlu {α:Type} (u:α) (n:Nat):∀(z:List Nat) (vs:List α) (i:Nat) (x:α),(spread u n z vs)[i]? = some x->x=u\/∃j:Nat,z[j]? = some i/\vs[j]? = some x:=by
 intro z;induction z with
 | nil=>
  intro vs i x h;simp only[spread,List.getElem?_replicate]at h
  simp_all
 | cons k z I=>
  intro vs i x h;cases vs with
  | nil=>
   simp only[spread,List.getElem?_replicate]at h
   simp_all
  | cons v vs=>
   simp only[spread,List.getElem?_set]at h;split at h
   ·rename_i G;subst G;split at h
    ·exact .inr ⟨0,rfl,h⟩
    ·cases h
   ·rcases I vs i x h with h|⟨j,C,D⟩
    ·exact .inl h
    ·exact .inr ⟨j+1,C,D⟩
theorem Zlr {α D:Type} (g:α->D) (u:α) (n:Nat):∀(z:List Nat) (vs:List α),(spread u n z vs).map g=spread (g u) n z (vs.map g):=by
 intro z;induction z with
 | nil=>intro vs;simp[spread]
 | cons k z C=>intro vs;cases vs<;>simp[spread,List.map_set,C]
theorem Zne {σ:Sg} {w:World} {xs:List V} {vs:List Value} (h:AL σ w xs vs):∀keep:List Nat,AL σ w (keep.map fun i=>xs.getD i .und) (keep.map fun i=>vs.getD i undef):=by
 intro keep;induction keep with
 | nil=>exact .nil
 | cons i keep C=>
  simp only[List.map_cons];refine AL.Dk.2 ⟨?_,C⟩;cases z:xs[i]? with
  | none=>simp only[List.getD,z,Option.getD_none];exact .und _ .nil
  | some x=>
   obtain⟨v,G,D⟩:=h.get z
   simp_all
theorem ZoP {E:Env} {B:Nat} {w0:Start} {σ:Sg} {st:St} {a:Act} {w:World} {k:Nat} {fa:List (List Fk)} {fb:List Bf} {keep ids:List Nat} {as:List V} {J:Heap} (Q:pack fa fb k (keep.map fun i=>st.s.getD i .und) st.H=some (ids,as,J))
  (h:EK E B w0 σ st a w):∃C,Ext σ w C w/\EK E B w0 (C.ren ids) ⟨spread .und st.s.length keep (Fv (ids.idxOf ·) as),GU J ids⟩ a w:=by
 obtain⟨R,hm,_,C,z,D,I⟩:=jP h.inv (Zne h.slots keep) Q;have G:=kT z R w0 z.below z.old (fun b hb=>by
  obtain⟨k1,k2,k3,k4⟩:=z.kept b hb
  grind)
 refine⟨C,D,G,(h.D5.ext D).bare (fun b c hh=>⟨hh,rfl⟩),?_,h.calm⟩;refine zH (by rw[ZiP];exact h.slots.length) (fun i x v S hv=>?_);rcases Zlu _ _ _ _ i x S with rfl|⟨j,Y,M⟩
 ·exact .und _ .nil
 ·obtain⟨u,hu,hr⟩:=(VH I hm).get M
  simp_all
inductive WE where
 | run (c:Code)|nxt|exit (id:Nat)|ret
inductive Fr where
 | seq (c:Code)|blk (id:Nat)|loop (b:Code)
def Np:List (List Nat)->List V->List V
 | es::rs,v::vs=>DX es v::Np rs vs
 | [],vs=>vs
 | _,[]=>[]
def QY (rs:List (List Nat)):V->V
 | .Ap vs=>.Ap (Np rs vs)
 | v=>DX (rs.headD []) v
inductive Ce (call:CV) (E:Env) (f:FuncId) (fn:Func) (k:Nat) (Z:St->V×Heap->Prop):WE->List Fr->St->V×Heap->Prop where
 | skip {K st r}:Ce call E f fn k Z .nxt K st r->Ce call E f fn k Z (.run .skip) K st r
 | region {id ops K st st' r}:Jt call E ops (List.range ops.size) st=some st' -> Ce call E f fn k Z .nxt K st' r->Ce call E f fn k Z (.run (.region id ops false)) K st r
 | draw {id ops K st st' r}:E.calm f id=true->Qa call E ops st=some st' -> Ce call E f fn k Z .nxt K st' r->Ce call E f fn k Z (.run (.region id ops true)) K st r
 | seq {a b K st r}:Ce call E f fn k Z (.run a) (.seq b::K) st r->Ce call E f fn k Z (.run (.seq a b)) K st r
 | cond {c a b t K st r}:ev E st.s c = .lit (.bool t)->Ce call E f fn k Z (.run (if t then a else b)) K st r->Ce call E f fn k Z (.run (.cond c a b)) K st r
 | block {id b K st r}:Ce call E f fn k Z (.run b) (.blk id::K) st r->Ce call E f fn k Z (.run (.block id b)) K st r
 | loop {b K st r}:Ce call E f fn k Z (.run b) (.loop b::K) st r->Ce call E f fn k Z (.run (.loop b)) K st r
 | scope {b K st r}:Ce call E f fn k Z (.run b) K st r->Ce call E f fn k Z (.run (.scope b)) K st r
 | label {l K st r}:Ce call E f fn k Z .nxt K st r->Ce call E f fn k Z (.run (.label l)) K st r
 | exit {id K st r}:Ce call E f fn k Z (.exit id) K st r->Ce call E f fn k Z (.run (.exit id)) K st r
 | ret {K st r}:Ce call E f fn k Z .ret K st r->Ce call E f fn k Z (.run .ret) K st r
 | nseq {c K st r}:Ce call E f fn k Z (.run c) K st r->Ce call E f fn k Z .nxt (.seq c::K) st r
 | nblk {id K st r}:Ce call E f fn k Z .nxt K st r->Ce call E f fn k Z .nxt (.blk id::K) st r
 | Zbn {b K st r}:Ce call E f fn k Z (.run b) (.loop b::K) st r->Ce call E f fn k Z .nxt (.loop b::K) st r
 | nR {id c K st r}:Ce call E f fn k Z (.exit id) K st r->Ce call E f fn k Z (.exit id) (.seq c::K) st r
 | Zb6 {id b K st r}:Ce call E f fn k Z (.exit id) K st r->Ce call E f fn k Z (.exit id) (.loop b::K) st r
 | eblk {id K st r}:Ce call E f fn k Z .nxt K st r->Ce call E f fn k Z (.exit id) (.blk id::K) st r
 | Zb7 {id i K st r}:id≠i->Ce call E f fn k Z (.exit id) K st r->Ce call E f fn k Z (.exit id) (.blk i::K) st r
 | rany {x K st r}:Ce call E f fn k Z .ret K st r->Ce call E f fn k Z .ret (x::K) st r
 | finN {st r}:Z st r->Ce call E f fn k Z .nxt [] st r
 | finR {st r}:Z st r->Ce call E f fn k Z .ret [] st r
 | tidy {ctl K ids st st' r}:Zbg k ids st st' -> Ce call E f fn k Z ctl K st' r->Ce call E f fn k Z ctl K st r
 | Zb8 {ctl K fa fb keep ids as H2 st r}:pack fa fb k (keep.map fun i=>st.s.getD i .und) st.H=some (ids,as,H2)->ids.take k=List.range k->Ce call E f fn k Z ctl K ⟨spread .und st.s.length keep (Fv (ids.idxOf ·) as),GU H2 ids⟩ r->Ce call E f fn k Z ctl K st r
def LoopIn (P:Program) (b:Code) (Q:Exit->Act->World->Prop) (a:Act) (w:World):Prop:=
 ∀fr k cs,∃e z w',Q e z w' /\ Arrives P (lone (fr.at a (.code b :: .inLoop b::k)) cs w) fr k cs e z w'
theorem LoopIn.of {P:Program} {b:Code} {Q:Exit->Act->World->Prop} {a:Act} {w:World} (h:b.wp P (Exit.then (LoopIn P b Q) Q) a w):LoopIn P b Q a w:=by
 intro fr k cs;obtain⟨e,C,D,J,z⟩:=h fr (.inLoop b::k) cs;cases e with
 | normal=>
  obtain⟨R,M,S,I,G⟩:=J fr k cs;exact⟨R,M,S,I,.of_steps (Steps.trans z (.one step_inLoop)) G⟩
 | exit id=>exact⟨_,C,D,J,.pass (x:=.inLoop b) rfl (fun _ _=>.inl (by simp)) z⟩
 | goto l=>exact⟨_,C,D,J,.pass (x:=.inLoop b) rfl (fun _ _=>.inl (by simp)) z⟩
 | ret=>exact⟨_,C,D,J,.pass (x:=.inLoop b) rfl (fun _ _=>.inl (by simp)) z⟩
 | panic Y=>exact⟨_,C,D,J,.pass (x:=.inLoop b) rfl (fun _ _=>.inl (by simp)) z⟩
 | outgrown=>exact⟨_,C,D,J,.pass (x:=.inLoop b) rfl (fun _ _=>.inl (by simp)) z⟩
theorem LoopIn.wp {P:Program} {b:Code} {Q:Exit->Act->World->Prop} {a:Act} {w:World} (h:LoopIn P b Q a w):(Code.loop b).wp P Q a w:=by
 intro fr k cs;obtain⟨e,C,w',D,z⟩:=h fr k cs;exact⟨e,C,w',D,.of_steps (.one step_loop) z⟩
def QK (P:Program) (Z:Act->World->Prop):List Fr->Exit->Act->World->Prop
 | [],.normal,a,w=>Z a w
 | [],.ret,a,w=>Z a w
 | [],_,_,_=>False
 | .seq c::K,e,a,w=>Exit.then (c.wp P (QK P Z K)) (QK P Z K) e a w
 | .blk id::K,e,a,w=>Exit.inBlock id (QK P Z K) e a w
 | .loop b::K,e,a,w=>Exit.then (LoopIn P b (QK P Z K)) (QK P Z K) e a w
theorem jL {P:Program} {Z:Act->World->Prop} {l:Nat} {a:Act} {w:World}:∀K:List Fr,QK P Z K (.goto l) a w->False
 | [],h=>h
 | .seq _::K,h=>jL K h
 | .blk _::K,h=>jL K h
 | .loop _::K,h=>jL K h
def lT (P:Program) (Z:Act->World->Prop) (K:List Fr) (a:Act) (w:World):WE->Prop
 | .run c=>c.wp P (QK P Z K) a w
 | .nxt=>QK P Z K .normal a w
 | .exit id=>QK P Z K (.exit id) a w
 | .ret=>QK P Z K .ret a w
def Xn (E:Env) (f:FuncId):WE->Bool
 | .run c=>Dy E f c
 | _=>true
def KN (E:Env) (f:FuncId):List Fr->Bool
 | []=>true
 | .seq c::K=>Dy E f c&&KN E f K
 | .loop c::K=>Dy E f c&&KN E f K
 | .blk _::K=>KN E f K
theorem Zip {σ w}:∀(rs:List (List Nat)) {xs:List V} {vs:List Value},AL σ w xs vs->AL σ w (Np rs xs) vs:=by
 intro rs;induction rs with
 | nil=>intro xs vs h;simpa[Np]using h
 | cons r rs D=>
  intro xs vs h;cases xs with
  | nil=>simpa[Np]using h
  | cons x xs=>
   obtain⟨v,G,rfl,z,C⟩:=h.Bd;exact AL.Dk.2 ⟨QS _ z,D C⟩
theorem ZjC {σ w x v} (rs:List (List Nat)) (h:AL σ w [x] [v]):AL σ w [QY rs x] [v]:=by
 unfold QY;split
 ·cases h with
  | Ap z _=>exact .Ap (Zip rs z) .nil
 ·exact QS _ h
theorem ZhL:∀(rs:List (List Nat)) (xs:List V),Be (Np rs xs)=Be xs:=by
 intro rs;induction rs with
 | nil=>intro xs;simp[Np]
 | cons r rs z=>intro xs;cases xs<;>simp[Np,Be,QQ,z]
theorem Z5Z (rs:List (List Nat)) (x:V) (h:Bz x=true):Bz (QY rs x)=true:=by
 unfold QY;split
 ·simpa[Bz,ZhL]using h
 ·rw[QQ];exact h
def Zp (E:Env) (fn:Func) (st:St) (r:V×Heap):Prop:=∃z C,KF E st.H st.s fn.results.toList=some z/\JJ st.H z=some C/\r=(QY (fn.resultTypes.toList.map E.rows) C,[])
def Zh (E:Env) (fn:Func) (fa:List (List Fk)) (fb:List Bf) (k:Nat) (st:St) (r:V×Heap):Prop:=∃z,KF E st.H st.s fn.results.toList=some z/\YW fa fb k z st.H=some r
def Fin (P:Program) (fn:Func) (B:Nat) (w0:Start) (r:V×Heap) (a:Act) (w:World):Prop:=
 a.defers=[]/\∃u z,(results fn a.tmps).run P w = .ok u w/\Below B w0.w w/\(∀b c,w0.fz b c->z b c)/\(∀b c,z b c->b<B->w0.fz b c)/\(∀b c,z b c->∃u,w.cell? ⟨b,c,none⟩=some u)/\AL (bare z) w [r.1] [u]/\Bz r.1=true
def FinH (P:Program) (fn:Func) (B:Nat) (w0:Start) (σ0:Sg) (ws:World) (r:V×Heap) (a:Act) (w:World):Prop:=
 a.defers=[]/\∃u σ',(results fn a.tmps).run P w = .ok u w/\Inv B w0 σ' r.2 w/\Ext σ0 ws σ' w/\AL σ' w [r.1] [u]
structure Hq (k:Nat) (σ:Sg) (w:World) (σ' : Sg) (w' : World):Prop where
 box:∀id L,id<k->σ.box id=some L->∃L',σ'.box id=some L' /\ L'.Ag=L.Ag/\(L' = L\/L.tot<L'.tot)
 fz:∀b c,σ.fz b c->σ'.fz b c/\w'.cell? ⟨b,c,none⟩=w.cell? ⟨b,c,none⟩
theorem Ext.k {k:Nat} {σ w σ' w'} (h:Ext σ w σ' w'):Hq k σ w σ' w' :=⟨fun id L _ z=>h.box id L z,h.fz⟩
theorem Hq.trans {k:Nat} {σ w σ' w' σ'' w''} (h:Hq k σ w σ' w') (g:Ext σ' w' σ'' w''):Hq k σ w σ'' w'' :=by
 refine⟨fun id L I G=>?_,fun b c hc=>?_⟩
 ·obtain⟨z,D,M,Q⟩:=h.box id L I G;obtain⟨C,k1,k2,k3⟩:=g.box id z D
  grind
 ·obtain⟨a1,J⟩:=h.fz b c hc;obtain⟨b1,b2⟩:=g.fz b c a1
  simp_all
theorem Zmf {ids:List Nat} {k j:Nat} (h:ids.take k=List.range k) (z:j<k):ids[j]? = some j:=by
 have:(ids.take k)[j]? = some j:=by rw[h];simp[z]
 grind
theorem Hq.ren {k:Nat} {σ w σ' w'} {ids:List Nat} (h:Hq k σ w σ' w') (J:ids.take k=List.range k):Hq k σ w (σ'.ren ids) w' :=by
 refine⟨fun id L z I=>?_,h.fz⟩;obtain⟨C,D,G⟩:=h.box id L z I;exact⟨C,by simp only[Sg.ren,Zmf J z,Option.bind_some];exact D,G⟩
section
variable {P:Program} {E:Env} {B:Nat} {w0:Start} {call:CV} {f:FuncId} {fn:Func}
theorem Zsq (S:Bl E) (Y:E.P=P) {σ:Sg} {st:St} {a:Act} {w:World} {r:V×Heap} (h:EK E B w0 σ st a w) (G:∀b c,w0.fz b c->σ.fz b c) (hz:Zp E fn st r):Fin P fn B w0 r a w:=by
 obtain⟨M,r1,hr,Q,rfl⟩:=hz;obtain⟨u,hu,z⟩:=XQ (P:=P) S Y h.inv h.slots hr;obtain⟨D,C⟩:=h.inv.freeze (OX M);have J:=ZF h.inv z Q (OX M) (fun i hi=>hi);have R:=zQ h.inv z Q;refine⟨h.calm,u,(σ.freeze st.H (OX M)).fz,hu,D.below,fun b c hh=>(C.fz b c (G b c hh)).1,fun b c hh I=>D.old b c hh I,D.cells,?_,Z5Z _ _ R⟩;exact AL.bare (ZjC _ J) (fun b c hh=>⟨hh,rfl⟩) (by simp[Be,Z5Z _ _ R])
theorem ZqS (hE:Bl E) (hP:E.P=P) {fa:List (List Fk)} {fb:List Bf} {k:Nat} {σ0:Sg} {ws:World} (h0:∀id L,σ0.box id=some L->id<k) (R:∀id,σ0.mp id=none) {σ:Sg} {st:St} {a:Act} {w:World} {r:V×Heap} (h:EK E B w0 σ st a w) (hx:Hq k σ0 ws σ w)
  (hz:Zh E fn fa fb k st r):FinH P fn B w0 σ0 ws r a w:=by
 obtain⟨r0,hr,z⟩:=hz;obtain⟨u,hu,M⟩:=XQ (P:=P) hE hP h.inv h.slots hr;have key:∀{args as:List V} {vs:List Value} {ids:List Nat} {D:Heap},AL σ w args vs->pack fa fb k args st.H=some (ids,as,D)->ids.take k=List.range k ->
   ∃σ',Inv B w0 σ' (GU D ids) w/\Ext σ0 ws σ' w/\AL σ' w (Fv (ids.idxOf ·) as) vs:=by
  intro args as vs ids D Y I G;obtain⟨hs,hm,_,σ1,C,Q,S⟩:=jP h.inv Y I;have J:=kT C hs w0 C.below C.old (fun b hb=>by
   obtain⟨k1,k2,k3,k4⟩:=C.kept b hb
   grind)
  refine⟨_,J,?_,VH S hm⟩;have:=(hx.trans Q).ren G;exact⟨fun id L hL=>this.box id L (h0 id L hL) hL,this.fz,fun id g hg=>by rw[R]at hg;cases hg⟩
 refine⟨h.calm,u,?_⟩;unfold YW at z;split at z
 ·rename_i vs;split at z
  ·rename_i ids as D I;split at z
   ·rename_i G;simp only[Option.some.injEq]at z;subst z;cases M with
    | Ap h1 _=>
     obtain⟨σ',i1,i2,i3⟩:=key h1 I G;exact⟨σ',hu,i1,i2,.Ap i3 .nil⟩
   ·cases z
  ·cases z
 ·split at z
  ·rename_i ids x D I;split at z
   ·rename_i G;simp only[Option.some.injEq]at z;subst z;obtain⟨σ',i1,i2,i3⟩:=key M I G;exact⟨σ',hu,i1,i2,i3⟩
   ·cases z
  ·cases z
theorem jX (hE:Bl E) (hP:E.P=P) (I:JX P E B w0 call) (Q:Nr E call) {k:Nat} {Z:St->V×Heap->Prop} {F:V×Heap->Act->World->Prop} {σ0:Sg} {ws:World}
  (hZ:∀st r σ a w,Z st r->EK E B w0 σ st a w->Hq k σ0 ws σ w->F r a w) {ctl:WE} {K:List Fr} {st:St} {r:V×Heap} (h:Ce call E f fn k Z ctl K st r) :
  Xn E f ctl=true->KN E f K=true->∀(σ:Sg) (a:Act) (w:World),EK E B w0 σ st a w->Hq k σ0 ws σ w->lT P (F r) K a w ctl:=by
 induction h with
 | skip h G=>intro hc z σ a w C D;exact wp_skip (G rfl z σ a w C D)
 | region hs h G=>
  intro hc z σ a w C D;exact wp_region (Zan hE hP I _ _ σ a w C hs (fun a' w' σ' R M =>G rfl z σ' a' w' R (D.trans M)))
 | draw J hs h G=>
  intro hc z σ a w C D;refine Zae hE hP (by rw[<- hP];exact hE.mix) I Q ?_ C hs (fun a' w' σ' R M =>G rfl z σ' a' w' R (D.trans M));simpa[Xn,Dy,J]using hc
 | seq h G=>
  intro hc z σ a w C D;simp only[Xn,Dy,Bool.and_eq_true]at hc;exact wp_seq (G hc.1 (by simp[KN,hc.2,z]) σ a w C D)
 | cond ht h G=>
  rename_i c x y t K st r;intro hc z σ a w C D;simp only[Xn,Dy,Bool.and_eq_true]at hc;have hv:=Dp (a:=a) C.D5 C.slots c;rw[ht]at hv;have hb:a.eval c = .bool t:=by generalize a.eval c=v at hv;cases hv;rfl
  refine wp_cond hb ?_;refine G ?_ z σ a w C D;cases t
  ·exact hc.2
  ·exact hc.1
 | block h G=>
  intro hc z σ a w C D;exact wp_block (G hc z σ a w C D)
 | loop h G=>
  intro hc z σ a w C D;simp only[Xn,Dy]at hc;exact(LoopIn.of (G hc (by simp[KN,hc,z]) σ a w C D)).wp
 | scope h G=>
  intro hc z σ a w C D;have h1:=G hc z σ a w C D;refine wp_scope_straight (wp_mono h1 fun e a' w' hq=>?_);cases e with
  | goto l=>exact(jL _ hq).elim
  | _=>exact hq
 | label h G=>intro hc z σ a w C D;exact wp_label (G rfl z σ a w C D)
 | exit h G=>intro hc z σ a w C D;exact wp_exit (G rfl z σ a w C D)
 | ret h G=>intro hc z σ a w C D;exact wp_ret (G rfl z σ a w C D)
 | nseq h G=>
  intro hc z σ a w C D;simp only[KN,Bool.and_eq_true]at z;exact G z.1 z.2 σ a w C D
 | nblk h G=>intro hc z σ a w C D;exact G rfl z σ a w C D
 | Zbn h G=>
  intro hc z σ a w C D;have S :=z;simp only[KN,Bool.and_eq_true]at S;exact LoopIn.of (G S.1 z σ a w C D)
 | nR h G=>
  intro hc z σ a w C D;simp only[KN,Bool.and_eq_true]at z;exact G rfl z.2 σ a w C D
 | Zb6 h G=>
  intro hc z σ a w C D;simp only[KN,Bool.and_eq_true]at z;exact G rfl z.2 σ a w C D
 | eblk h G=>
  intro hc z σ a w C D;have:=G rfl z σ a w C D;simp only[lT,QK,Exit.inBlock,if_true];exact this
 | Zb7 hne h G=>
  intro hc z σ a w C D;have:=G rfl z σ a w C D;simp only[lT,QK,Exit.inBlock,hne,if_false];exact this
 | rany h G=>
  rename_i x K st r;intro hc z σ a w C D;have:KN E f K=true:=by cases x<;>simp_all [KN]
  have:=G rfl this σ a w C D;cases x<;>exact this
 | finN hz=>intro hc z σ a w C D;exact hZ _ _ σ a w hz C D
 | finR hz=>intro hc z σ a w C D;exact hZ _ _ σ a w hz C D
 | tidy ht h G=>intro hc z σ a w C D;exact G hc z _ a w (ZrJ ht C) (D.ren ht.pre)
 | Zb8 hp Y h G=>
  intro hc z σ a w C D;obtain⟨σ1,h1,h2⟩:=ZoP hp C;exact G hc z _ a w h2 ((D.trans h1).ren Y)
end
end Go.Proofs.YteinepnbndegdaaGreat.Le
namespace Go.Proofs.YteinepnbndegdaaGreat.Le
open Go.RowKit (Below)
section
variable {U:CX}
def V6:List Bool->Bool
 | []=>true
 | [b]=>b
 | b::bs=>b&&V6 bs
theorem Z7e:∀{l:List Bool},V6 l=true->∀b∈l,b=true:=by
 intro l;induction l with
 | nil=>simp_all
 | cons x xs z=>
  intro h b hb;cases xs with
  | nil=>simp only[V6]at h;simp only[List.mem_singleton]at hb;rw[hb];exact h
  | cons y ys=>
   simp only[V6,Bool.and_eq_true]at h
   grind
def resT (E:Env) (H:Au U) (s:List (SV U.Ty)):ResultVar->Tr U (SV U.Ty)
 | .tmp t=>.leaf (s.getD t .und)
 | .cell a t=>loadT E H t (s.getD a .und)
def Vd (E:Env) (H:Au U) (s:List (SV U.Ty)):List ResultVar->Tr U (List (SV U.Ty))
 | []=>.leaf []
 | r::rs=>(resT E H s r).andThen fun v=>(Vd E H s rs).andThen fun vs=>.leaf (v::vs)
def SY:List Nat->List (SV U.Ty)->Option (List (SV U.Ty))
 | [],[]=>some []
 | t::ts,w::ws=>match U.Gq t w,SY ts ws with|some a,some r=>some (U.encS t a::r)|_,_=>none
 | _,_=>none
def Z1m (E:Env) (fn:Func) (st:DI U):Tr U (SV U.Ty):=
 (Vd E st.H st.s fn.results.toList).andThen fun vs=>
  match vs,fn.resultTypes.toList with
  | [v],[t]=>(Qn st.H v).andThen fun w=>(match U.Gq t w with|some a=>.leaf (U.encS t a)|none=>.fail)
  | vs,ts=>.when (vs.length≠1) ((PM st.H vs).andThen fun ws=>(match SY ts ws with|some es=>.leaf (.Ap es)|none=>.fail))
theorem Z9j {E:Env} (D:Cm U E) {st:DI U}:∀{rs:List ResultVar} {vs:List (SV U.Ty)},(Vd E st.H st.s rs).AV vs->rs.mapM (resD E (CB U st).H (CB U st).s)=some (Aj U vs):=by
 intro rs;induction rs with
 | nil=>intro vs h;simp only[Vd,Tr.AV]at h;subst h;rfl
 | cons r rs I=>
  intro vs h;simp only[Vd,Dn,Tr.AV]at h;obtain⟨v,z,ws,C,rfl⟩:=h;have G:resD E (CB U st).H (CB U st).s r=some (AU U v):=by
   cases r with
   | tmp t=>
    simp only[resT,Tr.AV]at z;subst z;exact congrArg some (Uu st.s t)
   | cell a t=>
    simp only[resD];rw[show (CB U st).s.getD a .und=AU U (st.s.getD a .und) from Uu st.s a];exact Z9l D z
  rw[List.mapM_cons,G,I C];rfl
theorem ZmA {E:Env} (z:Cm U E):∀{ts:List Nat} {ws es:List (SV U.Ty)},SY ts ws=some es->Np (ts.map E.rows) (Aj U ws)=Aj U es:=by
 intro ts;induction ts with
 | nil=>
  intro ws es h;cases ws with
  | nil=>simp only[SY,Option.some.injEq]at h;subst h;rfl
  | cons=>simp[SY]at h
 | cons t ts G=>
  intro ws es h;cases ws with
  | nil=>simp[SY]at h
  | cons w ws=>
   simp only[SY]at h;split at h
   ·rename_i a r C D;simp only[Option.some.injEq]at h;subst h;simp only[List.map_cons,Aj,Np,z.dec _ _ _ C,z.encS,G D]
   ·cases h
theorem Zrl {H:Heap} {x y:V} (h:H9 H x=some y):∀vs,y≠.Ap vs:=by
 intro vs z;subst z;unfold H9 at h;split at h
 ·simp_all
 ·unfold F9 at h
  grind
theorem Zpg {E:Env} (C:Cm U E) {fn:Func} {st:DI U} {v:SV U.Ty} (h:(Z1m E fn st).AV v) :
  ∃R S,KF E (CB U st).H (CB U st).s fn.results.toList=some R/\JJ (CB U st).H R=some S/\QY (fn.resultTypes.toList.map E.rows) S=AU U v:=by
 unfold Z1m at h;simp only[Dn]at h;obtain⟨vs,h1,h⟩:=h;have hm:=Z9j C h1;split at h
 ·rename_i Y t J;simp only[Dn]at h;obtain⟨w,G,h⟩:=h;split at h
  ·rename_i a ha;simp only[Tr.AV]at h;subst h;have D:H9 (CB U st).H (AU U Y)=some (AU U w):=jM G;refine⟨AU U Y,AU U w,by simp only[KF,hm,Aj],?_,?_⟩
   ·unfold JJ;split
    ·rename_i us z;rw[z]at D;simp[H9,F9]at D
    ·exact D
   ·rw[J];unfold QY;split
    ·rename_i us z;exact absurd z (Zrl D us)
    ·simp only[List.map_cons,List.headD_cons,C.dec _ _ _ ha,C.encS]
  ·simp[Tr.AV]at h
 ·rename_i va vs ts M;simp only[ER,Dn]at h;obtain⟨hl,ws,G,h⟩:=h;split at h
  ·rename_i es I;simp only[Tr.AV]at h;subst h;refine⟨.Ap (Aj U va),.Ap (Aj U ws),?_,?_,?_⟩
   ·simp only[KF,hm];split
    ·rename_i x Q;simp only[Option.some.injEq]at Q;exfalso;apply hl;have:=congrArg List.length Q;rw[Iu]at this;simpa using this
    ·simp_all
    simp_all
   ·simp only[JJ,CB,zF G,Option.map_some]
   ·simp only[QY,ZmA C I,AU]
  ·simp[Tr.AV]at h
def mQ (E:Env) (fn:Func) (st:DI U):Tr U (SV U.Ty×Au U):=(Z1m E fn st).andThen fun v=>.leaf (v,[])
def Z1o (E:Env) (fn:Func) (fa:List (List Fk)) (fb:List Bf) (k:Nat) (st:DI U):Tr U (SV U.Ty×Au U):=
 (Vd E st.H st.s fn.results.toList).andThen fun vs=>
  match vs with
  | [.Ap _]=>.fail
  | [.raw _]=>.fail
  | [v]=>(V8 fa fb k [v] st.H).andThen fun r=>(match r.2.1 with
   | [a]=>.when (r.1.take k=List.range k) (.leaf (FP (r.1.idxOf ·) a,Va r.2.2 r.1))
   | _=>.fail)
  | vs=>.when (vs.length≠1) ((V8 fa fb k vs st.H).andThen fun r=>.when (r.1.take k=List.range k) (.leaf (.Ap (MZ (r.1.idxOf ·) r.2.1),Va r.2.2 r.1)))
theorem Zo4 {E:Env} (I:Cm U E) {fn:Func} {st:DI U} {r:SV U.Ty×Au U} (h:(mQ E fn st).AV r):Zp E fn (CB U st) (AU U r.1,BC U r.2):=by
 simp only[mQ,Dn,Tr.AV]at h;obtain⟨v,G,rfl⟩:=h;obtain⟨J,M,z,C,D⟩:=Zpg I G;exact⟨J,M,z,C,by rw[D];rfl⟩
theorem Zoz {E:Env} (Y:Cm U E) {fn:Func} {fa:List (List Fk)} {fb:List Bf} {k:Nat} {st:DI U} {r:SV U.Ty×Au U} (h:(Z1o E fn fa fb k st).AV r):Zh E fn fa fb k (CB U st) (AU U r.1,BC U r.2):=by
 simp only[Z1o,Dn]at h;obtain⟨vs,S,h⟩:=h;have hm:=Z9j Y S;split at h
 ·simp[Tr.AV]at h
 ·simp[Tr.AV]at h
 ·rename_i v G I;simp only[Dn]at h;obtain⟨p,M,h⟩:=h;split at h
  ·rename_i a ha;simp only[ER,Tr.AV]at h;obtain⟨D,rfl⟩:=h;have z :=iW M;rw[ha]at z;refine⟨AU U v,by simp only[KF,hm,Aj],?_⟩;have J:∀cs,AU U v≠.Ap cs:=by
    intro cs C;cases v with
    | Ap vs=>exact G vs rfl
    | raw x=>exact I x rfl
    | _=>simp[AU]at C
   unfold YW;split
   ·rename_i cs C;exact absurd C (J cs)
   ·simp only[Aj]at z;simp only[CB,z];rw[if_pos D,Xb,iH]
  ·simp[Tr.AV]at h
 ·rename_i Q;simp only[ER,Dn,Tr.AV]at h;obtain⟨hl,p,M,D,rfl⟩:=h;have z :=iW M;refine⟨.Ap (Aj U vs),?_,?_⟩
  ·simp only[KF,hm];split
   ·rename_i x R;simp only[Option.some.injEq]at R;exfalso;apply hl;have:=congrArg List.length R;rw[Iu]at this;simpa using this
   ·simp_all
   simp_all
  ·simp only[YW,CB,z];rw[if_pos D,iH];simp only[AU,Ot]
inductive Vk (U:CX) where
 | done (v:SV U.Ty×Au U)
 | jump (c:Code) (K:List Fr) (st:DI U)
def Zp6 (call:CV) (E:Env) (f:FuncId) (fn:Func) (z:Nat) (Z:St->V×Heap->Prop):Vk U->V×Heap->Prop
 | .done s,v=>v=(AU U s.1,BC U s.2)
 | .jump c K st,v=>Ce call E f fn z Z (.run c) K (CB U st) v
end
end Go.Proofs.YteinepnbndegdaaGreat.Le
namespace Go.Proofs.YteinepnbndegdaaGreat.Le
inductive Pc where
 | v (t n:Nat) (agg:Bool)
 | own (e j:Nat)
 | ptr (j:Nat)
 | fn (f:FuncId) (a b:List Nat)
 | no
 | und
 | Yg (ptr:Bool)
inductive Sp where
 | one (c:Pc)
 | agg (cs:List Pc)
inductive Pb where
 | var (e m:Nat) (p:Sp)
 | row (t:Nat) (fresh:Bool)
 | gone
structure Shape where
 args:List Sp
 boxes:List Pb
abbrev Sp.cells:Sp->List Pc
 | .one c=>[c]
 | .agg cs=>cs
section
variable (U:CX)
@[reducible] def PX:List Pc->Type
 | []=>Unit
 | .v t _ _::ps=>U.Ty t×PX ps
 | _::ps=>PX ps
@[reducible] def AX:List Sp->Type
 | []=>Unit
 | p::ps=>PX U p.cells×AX ps
@[reducible] def BX:List Pb->Type
 | []=>Unit
 | .var _ _ p::bs=>PX U p.cells×BX bs
 | .row t _::bs=>List (U.Ty t)×BX bs
 | .gone::bs=>BX bs
@[reducible] def Shape.X (s:Shape):Type:=AX U s.args×BX U s.boxes
variable {U}
def EU:(bs:List Pb)->BX U bs->List Nat
 | [],_=>[]
 | .var _ _ _::bs,x=>1::EU bs x.2
 | .row _ _::bs,x=>x.1.length::EU bs x.2
 | .gone::bs,x=>1::EU bs x
def Y6 (j:Nat):SV U.Ty:=.ptr j 0 0 1
def nulS:Bool->SV U.Ty
 | true=>.lit (.pointer none)
 | false=>.lit .nilFunc
def Z1k:Bool->SV U.Ty->Bool
 | true,.lit (.pointer none)=>true
 | false,.lit .nilFunc=>true
 | _,_=>false
theorem Zpl {b:Bool} {c:SV U.Ty} (h:Z1k b c=true):c=nulS b:=by
 unfold Z1k at h;split at h<;>first|rfl|cases h
def CZ (ls:List Nat):(ps:List Pc)->PX U ps->List (SV U.Ty)
 | [],_=>[]
 | .v t _ _::ps,x=>cellsS (U.encS t x.1)++CZ ls ps x.2
 | .own _ j::ps,x=>.all j (ls.getD j 0)::CZ ls ps x
 | .ptr j::ps,x=>Y6 j::CZ ls ps x
 | .fn f a b::ps,x=>.fn f (a.map Y6) (b.map Y6)::CZ ls ps x
 | .no::ps,x=>.no::CZ ls ps x
 | .und::ps,x=>.und::CZ ls ps x
 | .Yg b::ps,x=>nulS b::CZ ls ps x
def E5 (ls:List Nat):(p:Sp)->PX U p.cells->SV U.Ty
 | .one c,x=>(CZ ls [c] x).headD .und
 | .agg cs,x=>.agg (CZ ls cs x)
def Ej (ls:List Nat):(ps:List Sp)->AX U ps->List (SV U.Ty)
 | [],_=>[]
 | p::ps,x=>E5 ls p x.1::Ej ls ps x.2
def Dz (ls:List Nat):(bs:List Pb)->BX U bs->Au U
 | [],_=>[]
 | .var e m p::bs,x=>.var e m (E5 ls p x.1)::Dz ls bs x.2
 | .row t fresh::bs,x=>.row t x.1 (if fresh then none else some x.1.length)::Dz ls bs x.2
 | .gone::bs,x=>.gone::Dz ls bs x
def Shape.enc (s:Shape) (x:s.X U):List (SV U.Ty)×Au U:=(Ej (EU s.boxes x.2) s.args x.1,Dz (EU s.boxes x.2) s.boxes x.2)
def PY:SV U.Ty->Bool
 | .nil _ | .raw _ | .agg _ | .Ap _ | .O5 _ | .TR ..=>false
 | _=>true
def SE:List Nat->List (SV U.Ty)->Bool
 | [],[]=>true
 | j::z,.ptr i a b c::xs=>decide (i=j/\a=0/\b=0/\c=1)&&SE z xs
 | _,_=>false
def Si (H:Au U):List Nat:=H.map fun b=>match b with | .row _ xs _=>xs.length|_=>1
def F5 (ls:List Nat):(ps:List Pc)->List (SV U.Ty)->Option (PX U ps×List Bool)
 | [],cs=>if cs.isEmpty then some ((),[]) else none
 | .v t n true::ps,cs=>if (cs.take n).length=n/\(cs.take n).all PY=true then
   (match U.Gq t (.agg (cs.take n)),F5 ls ps (cs.drop n) with
    | some a,some r=>some ((a,r.1),r.2)
    | _,_=>none) else none
 | .v t _ false::ps,c::cs=>if PY c then
   (match U.Gq t c,F5 ls ps cs with
    | some a,some r=>some ((a,r.1),r.2)
    | _,_=>none) else none
 | .own _ j::ps,.all i n::cs=>if i=j then (F5 ls ps cs).map fun r=>(r.1,(ls.getD j 0==n)::r.2) else none
 | .ptr j::ps,.ptr i a b c::cs=>if i=j/\a=0/\b=0/\c=1 then F5 ls ps cs else none
 | .fn f a b::ps,.fn g z C :: cs=>if g=f/\SE a z = true/\SE b C = true then F5 ls ps cs else none
 | .no::ps,.no::cs=>F5 ls ps cs
 | .und::ps,.und::cs=>F5 ls ps cs
 | .Yg b::ps,c::cs=>if Z1k b c=true then F5 ls ps cs else none
 | _::_,_=>none
def l9 (ls:List Nat):(p:Sp)->SV U.Ty->Option (PX U p.cells×List Bool)
 | .one c,x=>F5 ls [c] [x]
 | .agg cs,.agg xs=>F5 ls cs xs
 | _,_=>none
def Vo (ls:List Nat):(ps:List Sp)->List (SV U.Ty)->Option (AX U ps×List Bool)
 | [],[]=>some ((),[])
 | p::ps,x::xs=>(match l9 ls p x,Vo ls ps xs with
  | some a,some r=>some ((a.1,r.1),a.2++r.2)
  | _,_=>none)
 | _,_=>none
def OT (ls:List Nat):(bs:List Pb)->Au U->Option (BX U bs×List Bool)
 | [],[]=>some ((),[])
 | .var e m p::bs,.var z C x::H=>if z = e/\C = m then
   (match l9 ls p x,OT ls bs H with
    | some a,some r=>some ((a.1,r.1),a.2++r.2)
    | _,_=>none) else none
 | .row t fresh::bs,.row D xs fl::H=>if h:D = t then
   (match fresh,fl,OT ls bs H with
    | true,none,some r=>some ((h▸xs,r.1),r.2)
    | false,some n,some r=>some ((h▸xs,r.1),(n==xs.length)::r.2)
    | _,_,_=>none) else none
 | .gone::bs,.gone::H=>OT ls bs H
 | _,_=>none
def Shape.dec (s:Shape) (as:List (SV U.Ty)) (H:Au U):Option (s.X U×List Bool):=
 match Vo (Si H) s.args as,OT (Si H) s.boxes H with
 | some a,some b=>some ((a.1,b.1),a.2++b.2)
 | _,_=>none
theorem Z5C {x:SV U.Ty} (h:PY x=true) (e:Nat):Gl e (AU U x)=AU U x:=by
 cases x<;>simp_all [PY,AU,Gl]
theorem ZjP {x:SV U.Ty} (h:PY x=true):(AU U x).cells=[AU U x]:=by
 cases x<;>first|rfl|(simp[PY]at h)
theorem Zl1 {x:SV U.Ty} (h:PY x=true):∀cs,AU U x≠.agg cs:=by
 intro cs hc;cases x<;>first|(cases hc;done)|(simp[PY]at h)
theorem ZjN:∀{xs:List (SV U.Ty)},xs.all PY=true->∀es,GK es (Aj U xs)=Aj U xs:=by
 intro xs;induction xs with
 | nil=>intro _ es;cases es<;>rfl
 | cons x xs z=>
  intro h es;simp only[List.all_cons,Bool.and_eq_true]at h;cases es with
  | nil=>rfl
  | cons e es=>simp only[Aj,GK,Z5C h.1,z h.2]
theorem QR (xs ys:List (SV U.Ty)):Aj U (xs++ys)=Aj U xs++Aj U ys:=by simp[Eb]
theorem Z7P:∀{z:List Nat} {xs:List (SV U.Ty)},SE z xs=true->xs=z.map Y6:=by
 intro z;induction z with
 | nil=>intro xs h;cases xs with
  | nil=>rfl
  | cons=>simp[SE]at h
 | cons j z D=>
  intro xs h;cases xs with
  | nil=>simp[SE]at h
  | cons x xs=>
   cases x<;>simp[SE]at h;obtain⟨⟨rfl,rfl,rfl,rfl⟩,C⟩:=h;rw[D C];rfl
theorem Z9R {E:Env} (J:Cm U E) (ls:List Nat):∀(ps:List Pc) {cs:List (SV U.Ty)} {r:PX U ps×List Bool},F5 ls ps cs=some r->(∀b∈r.2,b=true)->Aj U cs=Aj U (CZ ls ps r.1):=by
 intro ps;induction ps with
 | nil=>
  intro cs r h _;simp only[F5]at h;split at h
  ·rename_i hc;cases cs with
   | nil=>rfl
   | cons=>simp at hc
  ·cases h
 | cons p ps C=>
  intro cs r h hb;cases p with
  | v t n Y=>
   cases Y with
   | true=>
    simp only[F5]at h;split at h
    ·rename_i hc;split at h
     ·rename_i a S I G;simp only[Option.some.injEq]at h;subst h;have e:=J.dec t _ a I;simp only[AU,DX]at e;rw[ZjN hc.2]at e;have D:=J.cells t a;rw[<- e]at D;simp only[V.cells]at D;simp only[CZ,QR,<- D,<- C G hb];rw[<- QR,List.take_append_drop]
     ·cases h
    ·cases h
   | false=>
    cases cs with
    | nil=>simp[F5]at h
    | cons c cs=>
     simp only[F5]at h;split at h
     ·rename_i hc;split at h
      ·rename_i a S I G;simp only[Option.some.injEq]at h;subst h;have e:=J.dec t _ a I;have hr:∀es,DX es (AU U c)=AU U c:=by
        intro es;unfold DX;split
        ·rename_i Q R;exact absurd R (Zl1 hc Q)
        ·exact Z5C hc _
       rw[hr]at e;have D:=J.cells t a;rw[<- e]at D;rw[ZjP hc]at D;simp only[CZ,QR,<- D,<- C G hb];rfl
      ·cases h
     ·cases h
  | own e j=>
   cases cs with
   | nil=>simp[F5]at h
   | cons c cs=>
    cases c<;>simp only[F5]at h<;>try (cases h;done)
    split at h
    ·rename_i z;subst z;simp only[Option.map_eq_some_iff]at h;obtain⟨S,G,rfl⟩:=h;have M:=hb _ (List.mem_cons_self ..);simp only[beq_iff_eq]at M;simp only[CZ,Aj,AU,M,C G (fun b hh=>hb b (by simp[hh]))]
    ·cases h
  | ptr j=>
   cases cs with
   | nil=>simp[F5]at h
   | cons c cs=>
    cases c<;>simp only[F5]at h<;>try (cases h;done)
    split at h
    ·rename_i z;obtain⟨rfl,rfl,rfl,rfl⟩:=z;simp only[CZ,Aj,Y6,C h hb]
    ·cases h
  | fn f a b=>
   cases cs with
   | nil=>simp[F5]at h
   | cons c cs=>
    cases c<;>simp only[F5]at h<;>try (cases h;done)
    split at h
    ·rename_i z;obtain⟨rfl,I,G⟩:=z;rw[Z7P I,Z7P G];simp only[CZ,Aj,C h hb]
    ·cases h
  | no=>
   cases cs with
   | nil=>simp[F5]at h
   | cons c cs=>
    cases c<;>simp only[F5]at h<;>try (cases h;done)
    simp only[CZ,Aj,C h hb]
  | und=>
   cases cs with
   | nil=>simp[F5]at h
   | cons c cs=>
    cases c<;>simp only[F5]at h<;>try (cases h;done)
    simp only[CZ,Aj,C h hb]
  | Yg b=>
   cases cs with
   | nil=>simp[F5]at h
   | cons c cs=>
    simp only[F5]at h;split at h
    ·rename_i M;rw[Zpl M];simp only[CZ,Aj,C h hb]
    ·cases h
theorem Z8V {E:Env} (z:Cm U E) (ls:List Nat) {p:Sp} {x:SV U.Ty} {r:PX U p.cells×List Bool} (h:l9 ls p x=some r) (hb:∀b∈r.2,b=true):AU U x=AU U (E5 ls p r.1):=by
 cases p with
 | one c=>
  have:=Z9R z ls [c] h hb;simp only[Aj]at this;cases C:CZ ls [c] r.1 with
  | nil=>rw[C]at this;cases this
  | cons y ys=>
   rw[C]at this;simp only[Aj,List.cons.injEq]at this;simp only[E5]
   simp_all
 | agg cs=>
  cases x<;>simp only[l9]at h<;>try (cases h;done)
  have:=Z9R z ls cs h hb;simp only[E5,AU,this]
theorem ZrV {E:Env} (D:Cm U E) (ls:List Nat):∀(ps:List Sp) {cs:List (SV U.Ty)} {r:AX U ps×List Bool},Vo ls ps cs=some r->(∀b∈r.2,b=true)->Aj U cs=Aj U (Ej ls ps r.1):=by
 intro ps;induction ps with
 | nil=>
  intro cs r h _;cases cs with
  | nil=>rfl
  | cons=>simp[Vo]at h
 | cons p ps G=>
  intro cs r h hb;cases cs with
  | nil=>simp[Vo]at h
  | cons c cs=>
   simp only[Vo]at h;split at h
   ·rename_i a I z C;simp only[Option.some.injEq]at h;subst h;simp only[Ej,Aj,Z8V D ls z (fun b hh=>hb b (by simp[hh])),G C (fun b hh=>hb b (by simp[hh]))]
   ·cases h
theorem Zry {E:Env} (R:Cm U E) (ls:List Nat):∀(bs:List Pb) {H:Au U} {r:BX U bs×List Bool},OT ls bs H=some r->(∀b∈r.2,b=true)->BC U H=BC U (Dz ls bs r.1)/\EU bs r.1=Si H:=by
 intro bs;induction bs with
 | nil=>
  intro H r h _;cases H with
  | nil=>exact⟨rfl,rfl⟩
  | cons=>simp[OT]at h
 | cons b bs G=>
  intro H r h hb;cases H with
  | nil=>cases b<;>simp[OT]at h
  | cons x H=>
   cases b with
   | var e m p=>
    cases x<;>simp only[OT]at h<;>try (cases h;done)
    split at h
    ·rename_i S;obtain⟨rfl,rfl⟩:=S;split at h
     ·rename_i a J Q D;simp only[Option.some.injEq]at h;subst h;obtain⟨z,C⟩:=G D (fun b hh=>hb b (by simp[hh]));have M:=Z8V R ls Q (fun b hh=>hb b (by simp[hh]));refine⟨?_,?_⟩
      ·simp only[BC,Dz,List.map_cons,BQ,M];exact congrArg _ z
      ·simp only[EU,Si,List.map_cons,C]
     ·cases h
    ·cases h
   | row t fresh=>
    cases x<;>simp only[OT]at h<;>try (cases h;done)
    rename_i t' xs fl;split at h
    ·rename_i Y;subst Y;split at h
     ·rename_i J D;simp only[Option.some.injEq]at h;subst h;obtain⟨z,C⟩:=G D hb;refine⟨?_,?_⟩
      ·simp only[BC,Dz,List.map_cons,if_true];exact congrArg _ z
      ·simp only[EU,Si,List.map_cons,C]
     ·rename_i n J D;simp only[Option.some.injEq]at h;subst h;obtain⟨z,C⟩:=G D (fun b hh=>hb b (by simp[hh]));have I:=hb _ (List.mem_cons_self ..);simp only[beq_iff_eq]at I;refine⟨?_,?_⟩
      ·simp only[BC,Dz,List.map_cons,Bool.false_eq_true,if_false,BQ,I];exact congrArg _ z
      ·simp only[EU,Si,List.map_cons,C]
     ·cases h
    ·cases h
   | gone=>
    cases x<;>simp only[OT]at h<;>try (cases h;done)
    obtain⟨z,C⟩:=G h hb;refine⟨?_,?_⟩
    ·simp only[BC,Dz,List.map_cons];exact congrArg _ z
    ·simp only[EU,Si,List.map_cons,C]
theorem Shape.kE {E:Env} (z:Cm U E) {s:Shape} {as:List (SV U.Ty)} {H:Au U} {r:s.X U×List Bool} (h:s.dec as H=some r) (hb:∀b∈r.2,b=true):Aj U as=Aj U (s.enc r.1).1/\BC U H=BC U (s.enc r.1).2:=by
 unfold Shape.dec at h;split at h
 ·rename_i a b I J;simp only[Option.some.injEq]at h;subst h;obtain⟨C,D⟩:=Zry z _ _ J (fun b hh=>hb b (by simp[hh]));have G:=ZrV z _ _ I (fun b hh=>hb b (by simp[hh]));simp only[Shape.enc,D];exact⟨G,C⟩
 ·cases h
variable (U)
def nP:Pc->Prop
 | .v t n true=>t∈U.keys/\∀a,∃cs,U.encS t a = .agg cs/\cs.length=n
 | .v t n false=>t∈U.keys/\∀a,cellsS (U.encS t a)=[U.encS t a]
 | _=>True
def nK:List Pc->Prop
 | []=>True
 | p::ps=>nP U p/\nK ps
def nS:Sp->Prop
 | .one (.v _ _ true)=>False
 | .one c=>nP U c
 | .agg cs=>nK U cs
def nT:List Sp->Prop
 | []=>True
 | p::ps=>nS U p/\nT ps
def Vw:List Pb->Prop
 | []=>True
 | .var _ _ p::bs=>nS U p/\Vw bs
 | .row t _::bs=>t∈U.keys/\Vw bs
 | .gone::bs=>Vw bs
def Shape.OK (s:Shape):Prop:=nT U s.args/\Vw U s.boxes
variable {U}
def WG (k1:List Nat) (z:List (Nat×Nat)):Pc->Bool
 | .v t n true=>z.contains (t,n)
 | .v t _ false=>k1.contains t
 | _=>true
def oC (k1:List Nat) (z:List (Nat×Nat)):Sp->Bool
 | .one (.v _ _ true)=>false
 | .one c=>WG k1 z c
 | .agg cs=>cs.all (WG k1 z)
def pbB (U:CX) (k1:List Nat) (z:List (Nat×Nat)):Pb->Bool
 | .var _ _ p=>oC k1 z p
 | .row t _=>U.keys.contains t
 | .gone=>true
def shB (U:CX) (k1:List Nat) (z:List (Nat×Nat)) (s:Shape):Bool:=s.args.all (oC k1 z)&&s.boxes.all (pbB U k1 z)
theorem Shape.ok_of {k1:List Nat} {C:List (Nat×Nat)} (Q:∀t∈k1,t∈U.keys/\∀a,cellsS (U.encS t a)=[U.encS t a]) (R:∀p∈C,p.1∈U.keys/\∀a,∃cs,U.encS p.1 a = .agg cs/\cs.length=p.2) {s:Shape} (h:shB U k1 C s=true):s.OK U:=by
 have M:∀c,WG k1 C c=true->nP U c:=by
  intro c hc;cases c with
  | v t n G=>cases G with
   | true=>exact R (t,n) (by simpa[WG]using hc)
   | false=>exact Q t (by simpa[WG]using hc)
  | _=>trivial
 have J:∀cs:List Pc,cs.all (WG k1 C)=true->nK U cs:=by
  intro cs;induction cs with
  | nil=>intro _;trivial
  | cons c cs z=>intro h;simp only[List.all_cons,Bool.and_eq_true]at h;exact⟨M c h.1,z h.2⟩
 have D:∀p,oC k1 C p=true->nS U p:=by
  intro p hh;cases p with
  | agg cs=>exact J cs hh
  | one c=>cases c with
   | v t n G=>cases G with
    | true=>cases hh
    | false=>exact M (.v t n false) hh
   | _=>trivial
 have has:∀l:List Sp,l.all (oC k1 C)=true->nT U l:=by
  intro l;induction l with
  | nil=>intro _;trivial
  | cons p l z=>intro h;simp only[List.all_cons,Bool.and_eq_true]at h;exact⟨D p h.1,z h.2⟩
 have I:∀l:List Pb,l.all (pbB U k1 C)=true->Vw U l:=by
  intro l;induction l with
  | nil=>intro _;trivial
  | cons p l z=>
   intro h;simp only[List.all_cons,Bool.and_eq_true]at h;cases p with
   | var e m q=>exact⟨D q h.1,z h.2⟩
   | row t fr=>exact⟨by simpa[pbB]using h.1,z h.2⟩
   | gone=>exact z h.2
 unfold shB at h;rw[Bool.and_eq_true]at h;exact⟨has _ h.1,I _ h.2⟩
theorem Z9r {E:Env} (I:Cm U E) {ls ls' : List Nat}:∀{ps:List Pc} {x y:PX U ps},nK U ps->Aj U (CZ ls ps x)=Aj U (CZ ls' ps y)->x=y:=by
 intro ps;induction ps with
 | nil=>intro x y _ _;rfl
 | cons p ps D=>
  intro x y z h;obtain⟨Q,z⟩:=z;cases p with
  | v t n R=>
   obtain⟨a,x'⟩:=x;obtain⟨b,y'⟩:=y;simp only[CZ,QR]at h;have key:Aj U (cellsS (U.encS t a))=Aj U (cellsS (U.encS t b))/\Aj U (CZ ls ps x')=Aj U (CZ ls' ps y')/\U.enc t a=U.enc t b/\t∈U.keys:=by
    cases R with
    | true=>
     obtain⟨hm,G⟩:=Q;obtain⟨ca,J,Y⟩:=G a;obtain⟨cb,M,lb⟩:=G b;have:=List.append_inj h (by rw[Iu,Iu,J,M];simp only[cellsS,Y,lb]);refine⟨this.1,this.2,?_,hm⟩;rw[<- I.encS,<- I.encS,J,M];have C:=this.1;rw[J,M]at C;simp only[cellsS]at C;simp only[AU,C]
    | false=>
     obtain⟨hm,G⟩:=Q;have:=List.append_inj h (by simp_all;rfl);refine⟨this.1,this.2,?_,hm⟩;have C:=this.1;rw[G a,G b]at C;simp only[Aj,List.cons.injEq,and_true,I.encS]at C;exact C
   obtain⟨_,h2,S,hm⟩:=key;have ha:=I.inj t hm a b S
   grind
  | own e j=>
   simp only[CZ,Aj,List.cons.injEq]at h;exact D z h.2
  | ptr j=>
   simp only[CZ,Aj,List.cons.injEq]at h;exact D z h.2
  | fn f a b=>
   simp only[CZ,Aj,List.cons.injEq]at h;exact D z h.2
  | no=>
   simp only[CZ,Aj,List.cons.injEq]at h;exact D z h.2
  | und=>
   simp only[CZ,Aj,List.cons.injEq]at h;exact D z h.2
  | Yg b=>
   simp only[CZ,Aj,List.cons.injEq]at h;exact D z h.2
theorem Z7N {E:Env} (D:Cm U E) {ls ls' : List Nat} {p:Sp} {x y:PX U p.cells} (C:nS U p) (h:AU U (E5 ls p x)=AU U (E5 ls' p y)):x=y:=by
 cases p with
 | one c=>
  cases c with
  | v t n G=>
   cases G with
   | true=>exact C.elim
   | false=>
    obtain⟨a,I⟩:=x;obtain⟨b,J⟩:=y;have z : nP U (.v t n false):=C;refine Z9r D (ps:=[.v t n false]) ⟨z,trivial⟩ (ls:=ls) (ls' :=ls') ?_;simp only[E5,CZ,z.2,List.append_nil,List.headD_cons]at h;simp only[CZ,z.2,List.append_nil,Aj,h]
  | own e j=>simp_all
  | ptr j=>rfl
  | fn f a b=>rfl
  | no=>rfl
  | und=>rfl
  | Yg b=>rfl
 | agg cs=>
  simp only[E5,AU,V.agg.injEq]at h;exact Z9r D C h
theorem ZoT {E:Env} (C:Cm U E) {ls ls' : List Nat}:∀{ps:List Sp} {x y:AX U ps},nT U ps->Aj U (Ej ls ps x)=Aj U (Ej ls' ps y)->x=y:=by
 intro ps;induction ps with
 | nil=>intro x y _ _;rfl
 | cons p ps D=>
  intro x y z h;obtain⟨a,G⟩:=x;obtain⟨b,I⟩:=y;simp only[Ej,Aj,List.cons.injEq]at h;rw[Z7N C z.1 h.1,D z.2 h.2]
theorem Zk1 {E:Env} (z:Cm U E) {t:Nat} (C:t∈U.keys):∀{xs ys:List (U.Ty t)},xs.map (U.enc t)=ys.map (U.enc t)->xs=ys:=by
 intro xs;induction xs with
 | nil=>intro ys h;cases ys with
  | nil=>rfl
  | cons=>cases h
 | cons x xs D=>
  intro ys h;cases ys with
  | nil=>cases h
  | cons y ys=>
   simp only[List.map_cons,List.cons.injEq]at h;rw[z.inj t C x y h.1,D h.2]
theorem Zos {E:Env} (D:Cm U E) {ls ls' : List Nat}:∀{bs:List Pb} {x y:BX U bs},Vw U bs->BC U (Dz ls bs x)=BC U (Dz ls' bs y)->x=y:=by
 intro bs;induction bs with
 | nil=>intro x y _ _;rfl
 | cons b bs C=>
  intro x y z h;cases b with
  | var e m p=>
   obtain⟨a,G⟩:=x;obtain⟨b,I⟩:=y;simp only[Dz,BC,List.map_cons,List.cons.injEq,BQ,BO,Box.mk.injEq,true_and,and_true]at h;rw[Z7N D z.1 h.1,C z.2 h.2]
  | row t fresh=>
   obtain⟨a,G⟩:=x;obtain⟨b,I⟩:=y;simp only[Dz,BC,List.map_cons,List.cons.injEq,BQ,Box.mk.injEq,true_and]at h;rw[Zk1 D z.1 h.1.1,C z.2 h.2]
  | gone=>
   simp only[Dz,BC,List.map_cons,List.cons.injEq,true_and]at h;exact C z h
theorem Shape.Zai {E:Env} (D:Cm U E) {s:Shape} (G:s.OK U) {x y:s.X U} (I:Aj U (s.enc x).1=Aj U (s.enc y).1) (J:BC U (s.enc x).2=BC U (s.enc y).2):x=y:=by
 obtain⟨a,b⟩:=x;obtain⟨M,Q⟩:=y;have C:=Zos D G.2 J;simp only at C;subst C;have z:=ZoT D G.1 I;simp only at z;rw[z]
variable (U)
structure HMod where
 fa:List (List Fk)
 fb:List Bf
 Ba:Shape
 FM:Shape
 one:Bool
 ky:Nat
 GV:U.Ty ky->FM.X U
 fn:Ba.X U->Option (U.Ty ky)
 ok:Ba.OK U
variable {U}
def HMod.out (m:HMod U) (y:U.Ty m.ky):SV U.Ty×Au U:=((if m.one then (m.FM.enc (m.GV y)).1.headD .und else .Ap (m.FM.enc (m.GV y)).1),(m.FM.enc (m.GV y)).2)
open Classical in
noncomputable def HMod.spec (m:HMod U):NC where
 fa:=m.fa
 fb:=m.fb
 run:=fun as z=>if h:∃x:m.Ba.X U,Aj U (m.Ba.enc x).1=as/\BC U (m.Ba.enc x).2=z then (m.fn (Classical.choose h)).map fun y=>(AU U (m.out y).1,BC U (m.out y).2) else none
theorem HMod.Zpk {E:Env} (z:Cm U E) (m:HMod U) (x:m.Ba.X U):m.spec.run (Aj U (m.Ba.enc x).1) (BC U (m.Ba.enc x).2)=(m.fn x).map fun y=>(AU U (m.out y).1,BC U (m.out y).2):=by
 have h:∃y:m.Ba.X U,Aj U (m.Ba.enc y).1=Aj U (m.Ba.enc x).1/\BC U (m.Ba.enc y).2=BC U (m.Ba.enc x).2:=⟨x,rfl,rfl⟩;simp only[HMod.spec,dif_pos h];rw[Shape.Zai z m.ok (Classical.choose_spec h).1 (Classical.choose_spec h).2]
def Z0L (m:HMod U) (as:List (SV U.Ty)) (H:Au U):Tr U (SV U.Ty×Au U):=
 (V8 m.fa m.fb 0 as H).andThen fun r=>match m.Ba.dec (MZ (r.1.idxOf ·) r.2.1) (Va r.2.2 r.1) with
  | some x=>(match x.2 with
   | []=>.bind m.ky (m.fn x.1) fun y=>.when (r.1.length<=(m.out y).2.length) (.leaf (FP (Gy r.1 r.2.2.length) (m.out y).1,X8 r.2.2 r.1 (m.out y).2))
   | c::cs=>.chk (V6 (c::cs)) (.bind m.ky (m.fn x.1) fun y=>.when (r.1.length<=(m.out y).2.length) (.leaf (FP (Gy r.1 r.2.2.length) (m.out y).1,X8 r.2.2 r.1 (m.out y).2))))
  | none=>.fail
theorem Zmx {E:Env} (R:Cm U E) {m:HMod U} {as:List (SV U.Ty)} {H:Au U} {r:SV U.Ty×Au U} (h:(Z0L m as H).AV r):JE m.spec (Aj U as) (BC U H)=some (AU U r.1,BC U r.2):=by
 simp only[Z0L,Dn]at h;obtain⟨p,S,h⟩:=h;have J :=iW S;split at h
 ·rename_i x Y;have key:(∀b∈x.2,b=true)/\∃y,m.fn x.1=some y/\p.1.length<=(m.out y).2.length/\r=(FP (Gy p.1 p.2.2.length) (m.out y).1,X8 p.2.2 p.1 (m.out y).2):=by
   split at h
   ·rename_i D;simp only[Tr.AV,ER]at h;obtain⟨y,z,C,G⟩:=h;exact⟨by rw[D];intro b hb;simp at hb,y,z,C,G.symm⟩
   ·rename_i c cs I;simp only[Tr.AV,ER]at h;obtain⟨hc,y,z,C,G⟩:=h;exact⟨by rw[I];exact Z7e hc,y,z,C,G.symm⟩
  obtain⟨hb,y,z,C,rfl⟩:=key;obtain⟨M,Q⟩:=Shape.kE R Y hb;rw[Ot]at M;rw[iH]at Q;unfold JE;simp only[show m.spec.fa=m.fa from rfl,show m.spec.fb=m.fb from rfl,J,M,Q,HMod.Zpk R,z,Option.map_some,Oj];rw[if_pos C,Xb,ZjH]
 ·simp[Tr.AV]at h
end
end Go.Proofs.YteinepnbndegdaaGreat.Le
namespace Go.Proofs.YteinepnbndegdaaGreat.Le
open Go.RowKit (Below)
section
variable {U:CX}
def FZ (U:CX):List Nat->Type
 | []=>Unit
 | t::ts=>U.Ty t×FZ U ts
def GL:(ts:List Nat)->FZ U ts->List V
 | [],_=>[]
 | t::ts,x=>U.enc t x.1::GL ts x.2
def Rx:(ts:List Nat)->List (SV U.Ty)->Option (FZ U ts)
 | [],[]=>some ()
 | t::ts,v::vs=>match U.Gq t v,Rx ts vs with|some a,some as=>some (a,as)|_,_=>none
 | _,_=>none
structure BF (U:CX) where
 ts:List Nat
 rt:Nat
 fn:FZ U ts->Option (U.Ty rt)
 ok:∀t∈ts,t∈U.keys
def YG:SV U.Ty->Bool
 | .ptr _ _ _ _=>true
 | .raw v=>SC v
 | _=>false
def Z12 (H:Au U):SV U.Ty->Tr U (SV U.Ty)
 | .ptr id i off tot=>if i=0/\off=0/\tot=1 then (match H[id]? with
   | some (.var _ n (.agg cs))=>.leaf (.raw (.Bj n [.agg ((Aj U cs).map Sr)] 0 0))
   | some (.var _ n x)=>(match Vz x with|some z=>.leaf (.raw (.Bj n [.lit z] 0 0))|none=>.fail)
   | _=>.fail) else .fail
 | .raw _=>.fail
 | v=>Qn H v
def Xd (H:Au U):List (SV U.Ty)->Tr U (List (SV U.Ty))
 | []=>.leaf []
 | v::vs=>(Z12 H v).andThen fun w=>(Xd H vs).andThen fun ws=>.leaf (w::ws)
def kW:SV U.Ty->Bool
 | .lit _ | .si _ _ | .sb _ | .ss _=>true
 | _=>false
def VT:SV U.Ty->Bool
 | .lit _ | .si _ _ | .sb _ | .ss _=>true
 | .agg cs=>cs.all kW
 | _=>false
def Z1n:SV U.Ty->Bool
 | .Ap vs=>vs.all VT
 | v=>VT v
theorem ZnY (x:SV U.Ty):SC (AU U x)=YG x:=by
 cases x<;>simp[YG,SC,AU]
theorem Z7w (xs:List (SV U.Ty)):(Aj U xs).any SC=xs.any YG:=by
 induction xs with
 | nil=>rfl
 | cons x xs z=>simp only[Aj,List.any_cons,z,ZnY]
theorem ZmV (x:SV U.Ty) (h:kW x=true):Ih (AU U x)=true:=by
 cases x<;>simp_all [kW,Ih,AU]
theorem Z7m (xs:List (SV U.Ty)) (h:xs.all kW=true):(Aj U xs).all Ih=true:=by
 induction xs with
 | nil=>rfl
 | cons x xs z=>
  simp only[List.all_cons,Bool.and_eq_true]at h;simp only[Aj,List.all_cons,Bool.and_eq_true];exact⟨ZmV x h.1,z h.2⟩
theorem ZmT (x:SV U.Ty) (h:VT x=true):NK (AU U x)=true:=by
 cases x<;>first|(simp[VT]at h;done)|(simp[NK,AU];done)|skip
 rename_i cs;simp only[AU,NK];exact Z7m cs h
theorem ZkS (xs:List (SV U.Ty)) (h:xs.all VT=true):(Aj U xs).all NK=true:=by
 induction xs with
 | nil=>rfl
 | cons x xs z=>
  simp only[List.all_cons,Bool.and_eq_true]at h;simp only[Aj,List.all_cons,Bool.and_eq_true];exact⟨ZmT x h.1,z h.2⟩
theorem Zoe (x:SV U.Ty) (h:Z1n x=true):Ql (AU U x)=true:=by
 cases x<;>first|(simp[Z1n,VT]at h;done)|(simp[Ql,NK,AU];done)|skip
 ·rename_i cs;simp only[AU,Ql,NK];exact Z7m cs h
 ·rename_i vs;simp only[AU,Ql];exact ZkS vs h
theorem Zmp {H:Au U} {x y:SV U.Ty} (h:(Z12 H x).AV y):OJ (BC U H) (AU U x)=some (AU U y):=by
 unfold Z12 at h;split at h
 ·rename_i id i off tot;split at h
  ·rename_i I;obtain⟨rfl,rfl,rfl⟩:=I;split at h
   ·rename_i e n cs hb;simp only[Tr.AV]at h;subst h;simp only[AU,OJ,and_self,if_true,Cc,KH,hb,Option.map_some,BQ,BO];simp
   ·rename_i e n x hb G;split at h
    ·rename_i z I;simp only[Tr.AV]at h;subst h;have M:AU U x = .lit z:=by cases x<;>simp_all [Vz,AU]
     simp only[AU,OJ,and_self,if_true,Cc,KH,G,Option.map_some,BQ,BO,M];simp
    ·simp[Tr.AV]at h
   ·simp[Tr.AV]at h
  ·simp[Tr.AV]at h
 ·simp[Tr.AV]at h
 ·rename_i C D;unfold OJ;split
  ·rename_i id i off tot J;exfalso;cases x<;>simp[AU]at J
   ·exact C _ _ _ _ rfl
   ·exact D _ rfl
  ·exact jM h
theorem Zku {H:Au U}:∀{xs ys:List (SV U.Ty)},(Xd H xs).AV ys->KG (BC U H) (Aj U xs)=some (Aj U ys):=by
 intro xs;induction xs with
 | nil=>intro ys h;simp only[Xd,Tr.AV]at h;subst h;rfl
 | cons x xs D=>
  intro ys h;simp only[Xd,Dn,Tr.AV]at h;obtain⟨w,z,ws,C,rfl⟩:=h;simp only[Aj,KG,Zmp z,D C]
def rowM (hmods:FuncId->List FuncId->Option (HMod U)) (g:FuncId):Bool:=match hmods g [] with|some m=>m.fb.all Bf.isRow|none=>false
def ND (mods:FuncId->Option (BF U)) (hmods:FuncId->List FuncId->Option (HMod U)) (mk:FuncId->Option (List (Int×FuncId))):IK U:=fun g as H=>
 match mk g with
 | some l=>(match as with|[x]=>.when ((LQ x).isEmpty=true) (.leaf (.O5 (l.flatMap fun q=>[.lit (.int .i64 q.1),.fn q.2 [x] []]),H))|_=>.fail)
 | none=>
 match mods g with
 | some m=>if as.any YG then (Xd H as).andThen fun z =>(match Rx m.ts z with
   | some x=>.bind m.rt (m.fn x) fun r=>.when (Z1n (U.encS m.rt r)=true/\(as.flatMap LQ).isEmpty=true) (.leaf (U.encS m.rt r,H))
   | none=>.fail)
  else (PM H as).andThen fun z =>(match Rx m.ts z with
  | some x=>.bind m.rt (m.fn x) fun r=>.leaf (U.encS m.rt r,Pe H (as.flatMap LQ))
  | none=>.fail)
 | none=>match hmods g (if rowM hmods g then [] else VR as) with
  | some m=>Z0L m as H
  | none=>.fail
noncomputable def Vt (hmods:FuncId->List FuncId->Option (HMod U)):FuncId->List FuncId->Option NC:=fun g k=>(hmods g k).map HMod.spec
open Classical in
noncomputable def OD (mods:FuncId->Option (BF U)):FuncId->Option (List V->Option V):=fun g=>
 match mods g with
 | some m=>some fun as=>if h:∃x:FZ U m.ts,GL m.ts x=as then (m.fn (Classical.choose h)).map (U.enc m.rt) else none
 | none=>none
theorem Z7n {E:Env} (D:Cm U E):∀{ts:List Nat} {vs:List (SV U.Ty)} {x:FZ U ts},Rx ts vs=some x->Ff E.rows ts (Aj U vs)=GL ts x:=by
 intro ts;induction ts with
 | nil=>
  intro vs x h;cases vs with
  | nil=>rfl
  | cons=>simp[Rx]at h
 | cons t ts G=>
  intro vs x h;cases vs with
  | nil=>simp[Rx]at h
  | cons v vs=>
   simp only[Rx]at h;split at h
   ·rename_i a as z C;cases h;simp only[Aj,Ff,GL,D.dec _ _ _ z,G C]
   ·cases h
theorem Zk2 {E:Env} (D:Cm U E):∀{ts:List Nat} {x y:FZ U ts},(∀t∈ts,t∈U.keys)->GL ts x=GL ts y->x=y:=by
 intro ts;induction ts with
 | nil=>intro x y _ _;rfl
 | cons t ts G=>
  intro x y C h;obtain⟨x1,x2⟩:=x;obtain⟨J,M⟩:=y;simp only[GL,List.cons.injEq]at h;rw[D.inj t (C t (by simp)) _ _ h.1,G (fun I z =>C I (by simp[z])) h.2]
theorem Z06 {E:Env} (C:Cm U E) {mods:FuncId->Option (BF U)} {g:FuncId} {m:BF U} (hm:mods g=some m) {F:List V->Option V} (z:OD mods g=some F) (x:FZ U m.ts):F (GL m.ts x)=(m.fn x).map (U.enc m.rt):=by
 unfold OD at z;simp only[hm,Option.some.injEq]at z;subst z;have h:∃y:FZ U m.ts,GL m.ts y=GL m.ts x:=⟨x,rfl⟩;simp only[dif_pos h];rw[Zk2 C m.ok (Classical.choose_spec h)]
theorem Zpm {E:Env} (G:Cm U E) {mods:FuncId->Option (BF U)} {hmods:FuncId->List FuncId->Option (HMod U)} (z:E.env=OD mods) (S:E.hm=Vt hmods) (hpu:∀g,E.pure g=false) (M:∀g m,mods g=some m->E.par g=m.ts)
  (J:∀g,E.own g=none) (n:Nat):NH U (ND mods hmods E.maps) (DY E (n+1)):=by
 intro g as H v H' h;unfold ND at h;cases C:E.maps g with
 | some l=>
  simp only[C]at h;split at h
  ·simp only[ER,Tr.AV,Prod.mk.injEq]at h;obtain⟨hi,rfl,rfl⟩:=h;unfold DY;simp only[C,Aj,Z02];rw[if_pos hi];simp only[AU,Eb,mkV,List.map_flatMap,List.map_cons,List.map_nil]
  ·cases h
 | none=>
 simp only[C]at h;cases hm:mods g with
 | none=>
  simp only[hm]at h;have hne:E.env g=none:=by rw[z];unfold OD;simp[hm]
  split at h
  ·rename_i m hmm;have:=Zmx G h;unfold DY;simp only[C,hne,hpu g,Bool.false_eq_true,if_false];have hfr:OM E g=rowM hmods g:=by
    unfold OM rowM;rw[C,hne,hpu g,S];simp only[Vt];cases hmods g []<;>rfl
   have hk:E.hm g (if OM E g then [] else La (Aj U as))=some m.spec:=by rw[hfr,S,ZkY];simp only[Vt,hmm,Option.map_some]
   simp only[hk,this]
  ·simp[Tr.AV]at h
 | some m=>
  simp only[hm]at h
  by_cases hq:as.any YG=true
  ·rw[if_pos hq]at h;simp only[Dn]at h;obtain⟨as',h1,h⟩:=h;split at h
   ·rename_i x hx;simp only[Tr.AV,ER,Prod.mk.injEq]at h;obtain⟨r,hr,⟨hfl,Y⟩,rfl,rfl⟩:=h;have D:∃F,E.env g=some F:=by rw[z];unfold OD;simp[hm]
    obtain⟨F,D⟩:=D;have Q:=Z06 G hm (by rw[<- z];exact D) x;have I :=Zoe _ hfl;rw[G.encS]at I;have R : (Aj U as).flatMap DC=[]:=by rw[ZC];simpa using Y
    unfold DY;simp only[C,D];rw[if_pos (by rw[Z7w];exact hq),Zku h1];simp only[J g,M g m hm,Z7n G hx,Q,hr,Option.map_some];rw[if_pos I,R,G.encS];rfl
   ·simp[Tr.AV]at h
  rw[if_neg hq]at h;simp only[Dn]at h;obtain⟨as',h1,h⟩:=h;split at h
  ·rename_i x hx;simp only[Tr.AV,Prod.mk.injEq]at h;obtain⟨r,hr,rfl,rfl⟩:=h;have D:∃F,E.env g=some F:=by rw[z];unfold OD;simp[hm]
   obtain⟨F,D⟩:=D;have Q:=Z06 G hm (by rw[<- z];exact D) x;unfold DY;simp only[C,D];rw[if_neg (by rw[Z7w];exact hq)];simp only[zF h1,J g,M g m hm,Z7n G hx,Q,hr,Option.map_some,ZC,VJ H _ (Z6v h1),G.encS]
  ·simp[Tr.AV]at h
structure BD (P:Program) (E:Env) (g:FuncId) (m:BF U):Prop where
 entered:Ky P g
 pure:∀x a,m.fn x=some a->MX P E g (GL m.ts x) (U.enc m.rt a)
theorem BD.D5 {P:Program} {E z : Env} (h:z.D5=E.D5) {g:FuncId} {m:BF U} (C:BD P E g m):BD P z g m:=by
 refine⟨C.entered,fun x a I fz w vs hc D G=>C.pure x a I fz w vs hc ?_ G⟩;intro g r hh;exact D g r (by rw[h];exact hh)
structure Bi (P:Program) (E:Env) (g:FuncId) (m:HMod U):Prop where
 entered:Ky P g
 heap:∀x y,m.fn x=some y->SN P E g (Aj U (m.Ba.enc x).1) (BC U (m.Ba.enc x).2) (AU U (m.out y).1) (BC U (m.out y).2)
theorem Bi.D5 {P:Program} {E C : Env} (h:C.D5=E.D5) {g:FuncId} {m:HMod U} (D:Bi P E g m):Bi P C g m:=by
 refine⟨D.entered,fun x y J B w0 σ w vs z hi G I=>D.heap x y J B w0 σ w vs z hi ?_ I⟩;intro g r hh;exact G g r (by rw[h];exact hh)
theorem iQ {P:Program} {E:Env} (hU:Cm U E) {mods:FuncId->Option (BF U)} {hmods:FuncId->List FuncId->Option (HMod U)} (C:E.env=OD mods) (S:E.hm=Vt hmods) (Q:∀g,E.own g=none) (h:∀g m,mods g=some m->BD P E g m)
  (h' : ∀g k m,hmods g k=some m->Bi P E g m) (mk:MW P) (Y:E.maps=mk.tab):LK P E:=by
 refine⟨?_,fun g k hs hh=>?_,fun g=>(by rw[Y];exact mk.ok g)⟩
 rotate_left
 ·rw[S]at hh;simp only[Vt,Option.map_eq_some_iff]at hh;obtain⟨m,hm,rfl⟩:=hh;refine⟨(h' g k m hm).entered,fun as H0 r H1 z=>?_⟩;simp only[HMod.spec]at z;split at z
  ·rename_i hx;obtain⟨x,rfl,rfl⟩:=hx;simp only[Option.map_eq_some_iff]at z;obtain⟨y,hy,he⟩:=z;simp only[Prod.mk.injEq]at he;obtain⟨rfl,rfl⟩:=he;generalize hch:(⟨x,rfl,rfl⟩:∃y:m.Ba.X U,Aj U (m.Ba.enc y).1=Aj U (m.Ba.enc x).1/\BC U (m.Ba.enc y).2=BC U (m.Ba.enc x).2)=M at hy;have hxe:=Shape.Zai hU m.ok (Classical.choose_spec M).1 (Classical.choose_spec M).2;rw[hxe]at hy;exact(h' g k m hm).heap x y hy
  ·cases z
 intro g F D;have hm:∃m,mods g=some m:=by
  rw[C]at D;unfold OD at D;cases hm:mods g with
  | none=>simp[hm]at D
  | some m=>exact⟨m,rfl⟩
 obtain⟨m,hm⟩:=hm;refine⟨(h g m hm).entered,fun as r _ R=>?_⟩;rw[Q g];have J :=D;rw[C]at D;unfold OD at D;simp only[hm,Option.some.injEq]at D;subst D;simp only at R;split at R
 ·rename_i hx;obtain⟨x,hx'⟩:=hx;subst hx';have:=Z06 hU hm (by rw[C]at J;exact J) x;have I : (m.fn x).map (U.enc m.rt)=some r:=by
   rw[<- this];simp only[dif_pos (⟨x,rfl⟩:∃y:FZ U m.ts,GL m.ts y=GL m.ts x)];exact R
  cases G:m.fn x with
  | none=>simp[G]at I
  | some a=>
   simp only[G,Option.map_some,Option.some.injEq]at I;subst I;exact(h g m hm).pure x a G
 ·cases R
theorem ZjW {P:Program} {E:Env} (J:Bl E) (S:E.P=P) (hF:LK P E) {n:Nat} {f:FuncId} {fn:Func} (Q:E.func f=some fn) {c:Code} (hb:fn.body=some c) {as:List V} {r:V} {H1:Heap}
  (h:Ce (DY E n) E f fn 0 (Zp E fn) (.run c) [] ⟨as++List.replicate (fn.ntmps - as.length) DT,[]⟩ (r,H1)):Ky P f/\MX P E f as r:=by
 obtain⟨D,hf2⟩:=J.func f fn Q;rw[S]at D;refine⟨⟨fn,D,by simp[hb],hf2⟩,?_⟩;intro fz w vs hcells hg Y;have hI:Inv w.heap.size (Start.of w fz) (bare fz) [] w:=⟨Below.refl _ w,Nat.le_refl _,fun id L hL=>(by cases hL),fun id bx hb=>by simp at hb,fun i j b1 b2 L1 L2 g I=>by simp at I,hcells,
  fun b c hc id bx L hb=>by simp at hb,fun id bx hb=>by simp at hb,fun b c hc _=>hc,fun b hb=>hb.elim,⟨fun id b hb=>by simp at hb,fun id g h=>(by cases h),fun id id' g h=>(by cases h)⟩⟩
 have z:AL (bare fz) w (as++List.replicate (fn.ntmps - as.length) DT) (vs.toArray++Array.replicate (fn.ntmps - vs.toArray.size) undef).toList:=by
  simp only[Array.toList_append,Array.toList_replicate,List.size_toArray];rw[<- Y.length];exact Y.append (AL.replicate _ (.no .nil))
 have R:EK E w.heap.size (Start.of w fz) (bare fz) ⟨as++List.replicate (fn.ntmps - as.length) DT,[]⟩ { tmps:=vs.toArray++Array.replicate (fn.ntmps - vs.toArray.size) undef,defers:=[] } w:=⟨hI,hg,z,rfl⟩;have hwp:=jX J S (Rk J S hF n w.heap.size (Start.of w fz)) (Nb n) (F:=Fin P fn w.heap.size (Start.of w fz)) (σ0:=bare fz) (ws:=w)
  (fun st r σ a w' hz Y hx=>Zsq J S Y (fun b c hh=>(hx.fz b c hh).1) hz) h (J.calm f fn c Q hb) rfl _ _ _ R (Ext.refl _ _).k
 refine calls_of_wp D hb ?_;intro fr k cs;obtain⟨e,a',w',G,M⟩:=hwp fr k cs;refine⟨e,a',w',?_,M⟩;cases e with
 | normal=>
  obtain⟨h0,u,C,I,h2,h3,h4,h5,h6,h7⟩:=G;exact⟨h0,u,I,u,C,rfl,h2,h3,h4,h5,h6,h7⟩
 | ret=>
  obtain⟨h0,u,C,I,h2,h3,h4,h5,h6,h7⟩:=G;exact⟨h0,u,I,u,C,rfl,h2,h3,h4,h5,h6,h7⟩
 | exit id=>exact G.elim
 | goto l=>exact G.elim
 | panic c=>exact G.elim
 | outgrown=>exact G.elim
theorem ZjS {P:Program} {E:Env} (G:Bl E) (R:E.P=P) (hF:LK P E) {n:Nat} {f:FuncId} {fn:Func} (J:E.func f=some fn) {c:Code} (hb:fn.body=some c) {as:List V} {Q:Heap} {r:V} {H1:Heap} {fa:List (List Fk)} {fb:List Bf} {k:Nat} (hk:Q.length=k)
  (h:Ce (DY E n) E f fn k (Zh E fn fa fb k) (.run c) [] ⟨as++List.replicate (fn.ntmps - as.length) DT,Q⟩ (r,H1)):Ky P f/\SN P E f as Q r H1:=by
 obtain⟨C,hf2⟩:=G.func f fn J;rw[R]at C;refine⟨⟨fn,C,by simp[hb],hf2⟩,?_⟩;intro B w0 σ w vs hnm hI hg S;have z:AL σ w (as++List.replicate (fn.ntmps - as.length) DT) (vs.toArray++Array.replicate (fn.ntmps - vs.toArray.size) undef).toList:=by
  simp only[Array.toList_append,Array.toList_replicate,List.size_toArray];rw[<- S.length];exact S.append (AL.replicate _ (.no .nil))
 have M:EK E B w0 σ ⟨as++List.replicate (fn.ntmps - as.length) DT,Q⟩ { tmps:=vs.toArray++Array.replicate (fn.ntmps - vs.toArray.size) undef,defers:=[] } w:=⟨hI,hg,z,rfl⟩;have hwp:=jX G R (Rk G R hF n B w0) (Nb n) (F:=FinH P fn B w0 σ w) (σ0:=σ) (ws:=w)
  (fun st r σ' a w' hz S hx=>ZqS G R (fun id L hL=>by rw[<- hk];exact hI.kY hL) hnm S hx hz) h (G.calm f fn c J hb) rfl _ _ _ M (Ext.refl _ _).k
 refine calls_of_wp C hb ?_;intro fr k cs;obtain⟨e,a',w',D,I⟩:=hwp fr k cs;refine⟨e,a',w',?_,I⟩;cases e with
 | normal=>
  obtain⟨Y,u,σ',h1,h2,h3,h4⟩:=D;exact⟨Y,u,h1,u,σ',rfl,h2,h3,h4⟩
 | ret=>
  obtain⟨Y,u,σ',h1,h2,h3,h4⟩:=D;exact⟨Y,u,h1,u,σ',rfl,h2,h3,h4⟩
 | exit id=>exact D.elim
 | goto l=>exact D.elim
 | panic c=>exact D.elim
 | outgrown=>exact D.elim
theorem Z9h {L R:Type} {J:L->Option R}:∀{T:Tr U L} {r:R},T.den J=some r->∃l,T.AV l/\J l=some r:=by
 intro T;induction T with
 | leaf l=>intro r h;exact⟨l,rfl,h⟩
 | br c a b G I=>
  intro r h;cases c with
  | true=>obtain⟨l,z,C⟩:=G h;exact⟨l,.inl ⟨rfl,z⟩,C⟩
  | false=>obtain⟨l,z,C⟩:=I h;exact⟨l,.inr ⟨rfl,z⟩,C⟩
 | bind t o k D=>
  intro r h;cases o with
  | none=>cases h
  | some a=>obtain⟨l,z,C⟩:=D a h;exact⟨l,⟨a,rfl,z⟩,C⟩
 | chk c a D=>
  intro r h;cases c with
  | true=>obtain⟨l,z,C⟩:=D h;exact⟨l,⟨rfl,z⟩,C⟩
  | false=>cases h
 | fail=>intro r h;cases h
theorem ZoS {L M:Type} {g:L->M}:∀{T:Tr U L} {l:L},T.AV l->(T.map g).AV (g l):=by
 intro T;induction T with
 | leaf l=>intro l h;simp only[Tr.AV]at h;subst h;rfl
 | br c a b C D=>
  intro l h;rcases h with ⟨hc,h⟩|⟨hc,h⟩
  ·exact .inl ⟨hc,C h⟩
  ·exact .inr ⟨hc,D h⟩
 | bind t o k z=>rintro l ⟨a,G,h⟩;exact⟨a,G,z a h⟩
 | chk c a z=>rintro l ⟨hc,h⟩;exact⟨hc,z h⟩
 | fail=>intro l h;exact h
def Pv:Code->List Nat->List Fr->Code×List Fr
 | .seq a b,0::p,K=>Pv a p (.seq b::K)
 | .seq a b,_::p,K=>Pv b p K
 | .cond _ a b,0::p,K=>Pv a p K
 | .cond _ a b,_::p,K=>Pv b p K
 | .block id b,_::p,K=>Pv b p (.blk id::K)
 | .loop b,_::p,K=>Pv b p (.loop b::K)
 | .scope b,_::p,K=>Pv b p K
 | c,_,K=>(c,K)
def Gm (fn:Func):Code:=match fn.body with|some c=>c|none=>.skip
open Classical in
noncomputable def Y8 {α:Type} (g:Nat->Option α):Option α:=if h:∃n a,g n=some a then g (Classical.choose h) else none
theorem Zi {α:Type} {g:Nat->Option α} {a:α} (h:Y8 g=some a):∃n,g n=some a:=by
 unfold Y8 at h;split at h
 ·exact⟨_,h⟩
 ·cases h
def Mono {α:Type} (g:Nat->Option α):Prop:=∀n a,g n=some a->g (n+1)=some a
theorem Mono.le {α:Type} {g:Nat->Option α} (C:Mono g) {n m:Nat} {a:α} (h:g n=some a) (z:n<=m):g m=some a:=by
 induction z with
 | refl=>exact h
 | step _ D=>exact C _ _ D
theorem Zrp {α:Type} {g:Nat->Option α} (D:Mono g) {n:Nat} {a:α} (h:g n=some a):Y8 g=some a:=by
 unfold Y8;have z:∃n a,g n=some a:=⟨n,a,h⟩;rw[dif_pos z];obtain⟨b,hb⟩:=Classical.choose_spec z;have G:=D.le h (Nat.le_max_left n (Classical.choose z));have C:=D.le hb (Nat.le_max_right n (Classical.choose z));rw[hb];rw[G]at C;exact C.symm
end
abbrev Ad (x:Int):Int:=IntKind.wrap .i64 x
end Go.Proofs.YteinepnbndegdaaGreat.Le
