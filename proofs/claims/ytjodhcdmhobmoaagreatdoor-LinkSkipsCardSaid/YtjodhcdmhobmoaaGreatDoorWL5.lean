/- A part of it. -/
import Derived.Test.YtjodhcdmhobmoaaGreatDoorWL4
import Derived.OpenShut
import Derived.Carry
import Derived.ProofKit
set_option linter.unusedVariables false
set_option linter.unusedSimpArgs false
namespace Go.Proofs.YtjodhcdmhobmoaaGreatDoor.Le
open Go.RowKit (Below)
structure Zij (k:Nat) (ids:List Nat) (st st' : St):Prop where
 nodup:ids.Nodup
 pre:ids.take k=List.range k
 len:st'.H.length=ids.length
 heap:∀(j id:Nat),ids[j]? = some id->∃b b',st.H[id]? = some b/\b.live=true/\st'.H[j]? = some b' /\ b'.live=true/\b'.row=b.row/\(b'.Ey=true->b.Ey=true)/\b'.elem=b.elem/\b'.BA=b.BA /\
  (b.floor<=b'.floor\/b'.floor=b'.xs.length)/\b'.floor<=b'.xs.length/\(b.row=true->b'.xs=b.xs)/\(b.row=false->b'.xs=IC (ids.idxOf ·) b.xs/\∀r∈Dx b.xs,r∈ids)
 slen:st'.s.length=st.s.length
 slots:∀(i:Nat) (v' : V),st'.s[i]? = some v' -> v' = .und\/∃v,st.s[i]? = some v/\v' = GI (ids.idxOf ·) v/\∀r∈Ei v,r∈ids
theorem ZdX {σ:Sg} {w:World}:∀{xs:List V} {vs:List Value},xs.length=vs.length->(∀(i:Nat) (x:V) (v:Value),xs[i]? = some x->vs[i]? = some v->AV σ w [x] [v])->AV σ w xs vs:=by
 intro xs;induction xs with
 | nil=>intro vs hl _;cases vs with|nil=>exact .nil|cons=>simp at hl
 | cons x xs A=>
  intro vs hl h;cases vs with
  | nil=>simp at hl
  | cons v vs=>exact AV.F8.2 ⟨h 0 x v rfl rfl,A (by simpa using hl) (fun i y u q z=>h (i+1) y u (by simpa using q) (by simpa using z))⟩
theorem ZFs {E:Env} {B:Nat} {w0:Start} {σ:Sg} {st st' : St} {a:Act} {w:World} {k:Nat} {ids:List Nat} (M:Zij k ids st st') (h:F5 E B w0 σ st a w):F5 E B w0 (σ.ren ids) st' a w:=by
 have D:∀{j:Nat} {L:Loc},(σ.ren ids).box j=some L->∃id,ids[j]? = some id/\σ.box id=some L:=by
  intro j L N;simp only[Sg.ren]at N;cases hj:ids[j]? with
  | none=>simp[hj]at N
  | some id=>simp_all
 have J:∀{j:Nat} {I : Box},st'.H[j]? = some I -> ∃id,ids[j]? = some id:=by
  intro j I hb;have hlt:=(List.getElem?_eq_some_iff.1 hb).1;rw[M.len]at hlt;exact⟨ids[j],List.getElem?_eq_getElem hlt⟩
 refine⟨⟨h.inv.below,h.inv.size,?_,?_,?_,h.inv.cells,?_,?_,h.inv.old,fun b hb=>?_⟩,h.FM.bare (fun b c hh=>⟨hh,rfl⟩) (En.refl _),?_,h.calm⟩
 ·intro j L N;obtain⟨id,h1,h2⟩:=D N;obtain⟨b,I,_,_,q1,q2,_⟩:=M.heap j id h1;exact⟨I,q1,q2⟩
 ·intro j I hb hl;obtain⟨id,G⟩:=J hb;obtain⟨b,b2,S,Y,p3,p4,p5,p6,p7,p8,p9,p10,A,C⟩:=M.heap j id G;rw[hb]at p3;cases p3;obtain⟨L,N,z⟩:=h.inv.boxes id b S Y;obtain⟨us,r1,r2,r3,r4⟩:=z.EF;refine⟨L,by simp[Sg.ren,G,N],?_⟩;have F:I.xs.length=b.xs.length:=by
   cases q:b.row with
   | true=>rw[A q]
   | false=>rw[(C q).1,Z1s]
  have Q:AV (σ.ren ids) w I.xs us:=by
   cases q:b.row with
   | true=>rw[A q];exact r1.bare (fun b c hh=>⟨hh,rfl⟩) (En.refl _) ((LX _).2 (z.I5 q))
   | false=>rw[(C q).1];exact iU r1 (C q).2
  refine⟨by rw[F];exact z.tot,⟨us,Q,r2,r3,by rw[p7,F];exact r4⟩,fun hn=>z.Ey (p6 hn),by rw[p8];exact z.BA,?_,?_⟩
  ·intro x O;cases q:b.row with
   | true=>rw[A q]at O;exact z.oks x O
   | false=>
    rw[(C q).1,Z3n]at O;obtain⟨y,hy,rfl⟩:=List.mem_map.1 O;rw[Zhm];exact z.oks y hy
  ·intro q x O;rw[p5]at q;rw[A q]at O;exact z.I5 q x O
 ·intro j j' b1 b2 L1 L2 g h1 h2 l1 l2 s1 s2 g1 g2;obtain⟨i1,e1,t1⟩:=D s1;obtain⟨i2,e2,t2⟩:=D s2;obtain⟨c1,_,S,Y,_⟩:=M.heap j i1 e1;obtain⟨c2,_,q1,q2,_⟩:=M.heap j' i2 e2;have:=h.inv.apart i1 i2 c1 c2 L1 L2 g S q1 Y q2 t1 t2 g1 g2;subst this;exact Zfi M.nodup e1 e2
 ·intro b c hc j I L hb hl N hg;obtain⟨id,G,hL'⟩:=D N;obtain⟨b0,b2,S,Y,p3,p4,p5,p6,p7,p8,p9,p10,A,C⟩:=M.heap j id G;rw[hb]at p3;cases p3;have:=h.inv.floor b c hc id b0 L S Y hL' hg;have F:I.xs.length=b0.xs.length:=by
   cases q:b0.row with
   | true=>rw[A q]
   | false=>rw[(C q).1,Z1s]
  have hle:b0.floor<=I.floor:=by
   rcases p9 with p9|p9
   ·exact p9
   ·rw[p9,F];exact h.inv.low id b0 S Y
  exact Nat.lt_of_lt_of_le this (Nat.mul_le_mul_right _ hle)
 ·intro j I hb hl;obtain⟨id,G⟩:=J hb;obtain⟨b0,b2,S,Y,p3,p4,p5,p6,p7,p8,p9,p10,A,C⟩:=M.heap j id G
  simp_all
 ·obtain⟨k1,k2,k3,k4⟩:=h.inv.kept b hb;refine⟨k1,k2,fun j L N hg=>?_,k4⟩
  grind
 ·refine ZdX (by rw[M.slen];exact h.slots.length) (fun i x v O hv=>?_);rcases M.slots i x O with rfl|⟨y,hy,rfl,hc⟩
  ·exact .und _ .nil
  ·obtain⟨u,hu,q⟩:=h.slots.get hy;rw[hv]at hu;cases hu;exact iU q (by simpa[Dx]using hc)
def spread {α:Type} (u:α) (n:Nat):List Nat->List α->List α
 | k::ks,v::vs=>(spread u n ks vs).set k v
 | _,_=>List.replicate n u
theorem Zsb {α:Type} (u:α) (n:Nat):∀(ks:List Nat) (vs:List α),(spread u n ks vs).length=n:=by
 intro ks;induction ks with
 | nil=>intro vs;simp[spread]
 | cons k ks q=>intro vs;cases vs<;>simp[spread,q]
theorem Zz8 {α:Type} (u:α) (n:Nat):∀(ks:List Nat) (vs:List α) (i:Nat) (x:α),(spread u n ks vs)[i]? = some x->x=u\/∃j:Nat,ks[j]? = some i/\vs[j]? = some x:=by
 intro ks;induction ks with
 | nil=>
  intro vs i x h;simp only[spread,List.getElem?_replicate]at h
  simp_all
 | cons k ks A=>
  intro vs i x h;cases vs with
  | nil=>
   simp only[spread,List.getElem?_replicate]at h
   simp_all
  | cons v vs=>
   simp only[spread,List.getElem?_set]at h;split at h
   ·rename_i hk;subst hk;split at h
    ·exact .inr ⟨0,rfl,h⟩
    ·cases h
   ·rcases A vs i x h with h|⟨j,q,z⟩
    ·exact .inl h
    ·exact .inr ⟨j+1,q,z⟩
theorem ZzD {α z:Type} (g:α->z) (u:α) (n:Nat):∀(ks:List Nat) (vs:List α),(spread u n ks vs).map g=spread (g u) n ks (vs.map g):=by
 intro ks;induction ks with
 | nil=>intro vs;simp[spread]
 | cons k ks q=>intro vs;cases vs<;>simp[spread,List.map_set,q]
theorem ZAC {σ:Sg} {w:World} {xs:List V} {vs:List Value} (h:AV σ w xs vs):∀keep:List Nat,AV σ w (keep.map fun i=>xs.getD i .und) (keep.map fun i=>vs.getD i undef):=by
 intro keep;induction keep with
 | nil=>exact .nil
 | cons i keep z=>
  simp only[List.map_cons];refine AV.F8.2 ⟨?_,z⟩;cases q:xs[i]? with
  | none=>simp only[List.getD,q,Option.getD_none];exact .und _ .nil
  | some x=>
   obtain⟨v,C,A⟩:=h.get q
   simp_all
theorem ZDj {E:Env} {B:Nat} {w0:Start} {σ:Sg} {st:St} {a:Act} {w:World} {k:Nat} {fa:List (List Fk)} {fb:List Bf} {keep ids:List Nat} {as:List V} {F:Heap} (hp:pack fa fb k (keep.map fun i=>st.s.getD i .und) st.H=some (ids,as,F))
  (h:F5 E B w0 σ st a w):∃z,Ext σ w z w/\F5 E B w0 (z.ren ids) ⟨spread .und st.s.length keep (IC (ids.idxOf ·) as),JP F ids⟩ a w:=by
 obtain⟨hs,hm,_,z,q,A,D⟩:=Z4d h.inv (ZAC h.slots keep) hp;have C:=Z4s q hs w0 q.below q.old (fun b hb=>by
  obtain⟨k1,k2,k3,k4⟩:=q.kept b hb
  grind)
 refine⟨z,A,C,(h.FM.ext A).bare (fun b c I=>⟨I,rfl⟩) (En.refl _),?_,h.calm⟩;refine ZdX (by rw[Zsb];exact h.slots.length) (fun i x v J O=>?_);rcases Zz8 _ _ _ _ i x J with rfl|⟨j,M,G⟩
 ·exact .und _ .nil
 ·obtain⟨u,hu,N⟩:=(iU D hm).get G
  simp_all
inductive YB where
 | run (c:Code)|nxt|exit (id:Nat)|ret
inductive Fr where
 | seq (c:Code)|blk (id:Nat)|loop (b:Code)
def Oq:List (List Nat)->List V->List V
 | es::rs,v::vs=>EU es v::Oq rs vs
 | [],vs=>vs
 | _,[]=>[]
def Rz (rs:List (List Nat)):V->V
 | .BK vs=>.BK (Oq rs vs)
 | v=>EU (rs.headD []) v
inductive Dn (call:EO) (E:Env) (f:FuncId) (fn:Func) (k:Nat) (Z:St->V×Heap->Prop):YB->List Fr->St->V×Heap->Prop where
 | skip {K st r}:Dn call E f fn k Z .nxt K st r->Dn call E f fn k Z (.run .skip) K st r
 | region {id ops K st st' r}:Nl call E ops (List.range ops.size) st=some st' -> Dn call E f fn k Z .nxt K st' r->Dn call E f fn k Z (.run (.region id ops false)) K st r
 | draw {id ops K st st' r}:E.calm f id=true->Ut call E ops st=some st' -> Dn call E f fn k Z .nxt K st' r->Dn call E f fn k Z (.run (.region id ops true)) K st r
 | seq {a b K st r}:Dn call E f fn k Z (.run a) (.seq b::K) st r->Dn call E f fn k Z (.run (.seq a b)) K st r
 | cond {c a b t K st r}:ev E st.s c = .lit (.bool t)->Dn call E f fn k Z (.run (if t then a else b)) K st r->Dn call E f fn k Z (.run (.cond c a b)) K st r
 | block {id b K st r}:Dn call E f fn k Z (.run b) (.blk id::K) st r->Dn call E f fn k Z (.run (.block id b)) K st r
 | loop {b K st r}:Dn call E f fn k Z (.run b) (.loop b::K) st r->Dn call E f fn k Z (.run (.loop b)) K st r
 | scope {b K st r}:Dn call E f fn k Z (.run b) K st r->Dn call E f fn k Z (.run (.scope b)) K st r
 | label {l K st r}:Dn call E f fn k Z .nxt K st r->Dn call E f fn k Z (.run (.label l)) K st r
 | exit {id K st r}:Dn call E f fn k Z (.exit id) K st r->Dn call E f fn k Z (.run (.exit id)) K st r
 | ret {K st r}:Dn call E f fn k Z .ret K st r->Dn call E f fn k Z (.run .ret) K st r
 | nseq {c K st r}:Dn call E f fn k Z (.run c) K st r->Dn call E f fn k Z .nxt (.seq c::K) st r
 | nblk {id K st r}:Dn call E f fn k Z .nxt K st r->Dn call E f fn k Z .nxt (.blk id::K) st r
 | Zig {b K st r}:Dn call E f fn k Z (.run b) (.loop b::K) st r->Dn call E f fn k Z .nxt (.loop b::K) st r
 | eseq {id c K st r}:Dn call E f fn k Z (.exit id) K st r->Dn call E f fn k Z (.exit id) (.seq c::K) st r
 | Zit {id b K st r}:Dn call E f fn k Z (.exit id) K st r->Dn call E f fn k Z (.exit id) (.loop b::K) st r
 | eblk {id K st r}:Dn call E f fn k Z .nxt K st r->Dn call E f fn k Z (.exit id) (.blk id::K) st r
 | Zim {id i K st r}:id≠i->Dn call E f fn k Z (.exit id) K st r->Dn call E f fn k Z (.exit id) (.blk i::K) st r
 | rany {x K st r}:Dn call E f fn k Z .ret K st r->Dn call E f fn k Z .ret (x::K) st r
 | finN {st r}:Z st r->Dn call E f fn k Z .nxt [] st r
 | finR {st r}:Z st r->Dn call E f fn k Z .ret [] st r
 | tidy {ctl K ids st st' r}:Zij k ids st st' -> Dn call E f fn k Z ctl K st' r->Dn call E f fn k Z ctl K st r
 | Zin {ctl K fa fb keep ids as H2 st r}:pack fa fb k (keep.map fun i=>st.s.getD i .und) st.H=some (ids,as,H2)->ids.take k=List.range k->Dn call E f fn k Z ctl K ⟨spread .und st.s.length keep (IC (ids.idxOf ·) as),JP H2 ids⟩ r->Dn call E f fn k Z ctl K st r
def LoopIn (P:Program) (b:Code) (Q:Exit->Act->World->Prop) (a:Act) (w:World):Prop:=
 ∀z k cs,∃e q w',Q e q w' /\ Arrives P (lone (z.at a (.code b :: .inLoop b::k)) cs w) z k cs e q w'
theorem LoopIn.of {P:Program} {b:Code} {Q:Exit->Act->World->Prop} {a:Act} {w:World} (h:b.wp P (Exit.then (LoopIn P b Q) Q) a w):LoopIn P b Q a w:=by
 intro M k cs;obtain⟨e,z,A,F,q⟩:=h M (.inLoop b::k) cs;cases e with
 | normal=>
  obtain⟨I,G,J,D,C⟩:=F M k cs;exact⟨I,G,J,D,.of_steps (Steps.trans q (.one step_inLoop)) C⟩
 | exit id=>exact⟨_,z,A,F,.pass (x:=.inLoop b) rfl (fun _ _=>.inl (by simp)) q⟩
 | goto l=>exact⟨_,z,A,F,.pass (x:=.inLoop b) rfl (fun _ _=>.inl (by simp)) q⟩
 | ret=>exact⟨_,z,A,F,.pass (x:=.inLoop b) rfl (fun _ _=>.inl (by simp)) q⟩
 | panic N=>exact⟨_,z,A,F,.pass (x:=.inLoop b) rfl (fun _ _=>.inl (by simp)) q⟩
 | outgrown=>exact⟨_,z,A,F,.pass (x:=.inLoop b) rfl (fun _ _=>.inl (by simp)) q⟩
theorem LoopIn.wp {P:Program} {b:Code} {Q:Exit->Act->World->Prop} {a:Act} {w:World} (h:LoopIn P b Q a w):(Code.loop b).wp P Q a w:=by
 intro A k cs;obtain⟨e,z,w',C,q⟩:=h A k cs;exact⟨e,z,w',C,.of_steps (.one step_loop) q⟩
def QK (P:Program) (Z:Act->World->Prop):List Fr->Exit->Act->World->Prop
 | [],.normal,a,w=>Z a w
 | [],.ret,a,w=>Z a w
 | [],_,_,_=>False
 | .seq c::K,e,a,w=>Exit.then (c.wp P (QK P Z K)) (QK P Z K) e a w
 | .blk id::K,e,a,w=>Exit.inBlock id (QK P Z K) e a w
 | .loop b::K,e,a,w=>Exit.then (LoopIn P b (QK P Z K)) (QK P Z K) e a w
theorem wJ {P:Program} {Z:Act->World->Prop} {l:Nat} {a:Act} {w:World}:∀K:List Fr,QK P Z K (.goto l) a w->False
 | [],h=>h
 | .seq _::K,h=>wJ K h
 | .blk _::K,h=>wJ K h
 | .loop _::K,h=>wJ K h
def Z50 (P:Program) (Z:Act->World->Prop) (K:List Fr) (a:Act) (w:World):YB->Prop
 | .run c=>c.wp P (QK P Z K) a w
 | .nxt=>QK P Z K .normal a w
 | .exit id=>QK P Z K (.exit id) a w
 | .ret=>QK P Z K .ret a w
def jB (E:Env) (f:FuncId):YB->Bool
 | .run c=>Eo E f c
 | _=>true
def NU (E:Env) (f:FuncId):List Fr->Bool
 | []=>true
 | .seq c::K=>Eo E f c&&NU E f K
 | .loop c::K=>Eo E f c&&NU E f K
 | .blk _::K=>NU E f K
theorem Zsh {σ w}:∀(rs:List (List Nat)) {xs:List V} {vs:List Value},AV σ w xs vs->AV σ w (Oq rs xs) vs:=by
 intro rs;induction rs with
 | nil=>intro xs vs h;simpa[Oq]using h
 | cons r rs A=>
  intro xs vs h;cases xs with
  | nil=>simpa[Oq]using h
  | cons x xs=>
   obtain⟨v,C,rfl,q,z⟩:=h.EP;exact AV.F8.2 ⟨UR _ q,A z⟩
theorem Zut {σ w x v} (rs:List (List Nat)) (h:AV σ w [x] [v]):AV σ w [Rz rs x] [v]:=by
 unfold Rz;split
 ·cases h with
  | BK q _=>exact .BK (Zsh rs q) .nil
 ·exact UR _ h
theorem ZqR:∀(rs:List (List Nat)) (xs:List V),CY (Oq rs xs)=CY xs:=by
 intro rs;induction rs with
 | nil=>intro xs;simp[Oq]
 | cons r rs q=>intro xs;cases xs<;>simp[Oq,CY,UQ,q]
theorem ZaA (rs:List (List Nat)) (x:V) (h:DF x=true):DF (Rz rs x)=true:=by
 unfold Rz;split
 ·simpa[DF,ZqR]using h
 ·rw[UQ];exact h
def Zp (E:Env) (fn:Func) (st:St) (r:V×Heap):Prop:=∃q z,Lc E st.H st.s fn.results.toList=some q/\Jz st.H q=some z/\r=(Rz (fn.resultTypes.toList.map E.rows) z,[])
def Zh (E:Env) (fn:Func) (fa:List (List Fk)) (fb:List Bf) (k:Nat) (st:St) (r:V×Heap):Prop:=∃q,Lc E st.H st.s fn.results.toList=some q/\yO fa fb k q st.H=some r
def Fin (P:Program) (fn:Func) (B:Nat) (w0:Start) (r:V×Heap) (a:Act) (w:World):Prop:=
 a.defers=[]/\∃u q,(results fn a.tmps).run P w = .ok u w/\Below B w0.w w/\(∀b c,w0.fz b c->q b c)/\(∀b c,q b c->b<B->w0.fz b c)/\(∀b c,q b c->∃u,w.cell? ⟨b,c,none⟩=some u)/\AV (bare q) w [r.1] [u]/\DF r.1=true
def FinH (P:Program) (fn:Func) (B:Nat) (w0:Start) (σ0:Sg) (ws:World) (r:V×Heap) (a:Act) (w:World):Prop:=
 a.defers=[]/\∃u σ',(results fn a.tmps).run P w = .ok u w/\Inv B w0 σ' r.2 w/\Ext σ0 ws σ' w/\AV σ' w [r.1] [u]
structure PY (k:Nat) (σ:Sg) (w:World) (σ' : Sg) (w' : World):Prop where
 box:∀id L,id<k->σ.box id=some L->∃L',σ'.box id=some L' /\ L'.BA=L.BA/\(L' = L\/L.tot<L'.tot)
 fz:∀b c,σ.fz b c->σ'.fz b c/\w'.cell? ⟨b,c,none⟩=w.cell? ⟨b,c,none⟩
 mp:En w w'
theorem Ext.k {k:Nat} {σ w σ' w'} (h:Ext σ w σ' w'):PY k σ w σ' w' :=⟨fun id L _ q=>h.box id L q,h.fz,h.mp⟩
theorem PY.trans {k:Nat} {σ w σ' w' σ'' w''} (h:PY k σ w σ' w') (g:Ext σ' w' σ'' w''):PY k σ w σ'' w'' :=by
 refine⟨fun id L hk D=>?_,fun b c hc=>?_,h.mp.trans g.mp⟩
 ·obtain⟨q,C,G,I⟩:=h.box id L hk D;obtain⟨z,k1,k2,k3⟩:=g.box id q C
  grind
 ·obtain⟨A,F⟩:=h.fz b c hc;obtain⟨b1,b2⟩:=g.fz b c A
  simp_all
theorem ZxR {ids:List Nat} {k j:Nat} (h:ids.take k=List.range k) (q:j<k):ids[j]? = some j:=by
 have:(ids.take k)[j]? = some j:=by rw[h];simp[q]
 grind
theorem PY.ren {k:Nat} {σ w σ' w'} {ids:List Nat} (h:PY k σ w σ' w') (hp:ids.take k=List.range k):PY k σ w (σ'.ren ids) w' :=by
 refine⟨fun id L hk C=>?_,h.fz,h.mp⟩;obtain⟨q,z,A⟩:=h.box id L hk C;exact⟨q,by simp only[Sg.ren,ZxR hp hk,Option.bind_some];exact z,A⟩
section
variable {P:Program} {E:Env} {B:Nat} {w0:Start} {call:EO} {f:FuncId} {fn:Func}
theorem ZGe (M:DV E) (N:E.P=P) {σ:Sg} {st:St} {a:Act} {w:World} {r:V×Heap} (h:F5 E B w0 σ st a w) (D:∀b c,w0.fz b c->σ.fz b c) (hz:Zp E fn st r):Fin P fn B w0 r a w:=by
 obtain⟨I,S,Q,hf,rfl⟩:=hz;obtain⟨u,hu,z⟩:=tY (P:=P) M N h.inv h.slots Q;obtain⟨C,A⟩:=h.inv.freeze (P5 I);have G:=Z3o h.inv z hf (P5 I) (fun i O=>O);have J:=Z2M h.inv z hf;refine⟨h.calm,u,(σ.freeze st.H (P5 I)).fz,hu,C.below,fun b c q=>(A.fz b c (D b c q)).1,fun b c q F=>C.old b c q F,C.cells,?_,ZaA _ _ J⟩;exact AV.bare (Zut _ G) (fun b c q=>⟨q,rfl⟩) (En.refl _) (by simp[CY,ZaA _ _ J])
theorem ZFt (Y:DV E) (hP:E.P=P) {fa:List (List Fk)} {fb:List Bf} {k:Nat} {σ0:Sg} {ws:World} (Q:∀id L,σ0.box id=some L->id<k) {σ:Sg} {st:St} {a:Act} {w:World} {r:V×Heap} (h:F5 E B w0 σ st a w) (hx:PY k σ0 ws σ w)
  (hz:Zh E fn fa fb k st r):FinH P fn B w0 σ0 ws r a w:=by
 obtain⟨r0,hr,q⟩:=hz;obtain⟨u,hu,D⟩:=tY (P:=P) Y hP h.inv h.slots hr;have key:∀{args as:List V} {vs:List Value} {ids:List Nat} {A:Heap},AV σ w args vs->pack fa fb k args st.H=some (ids,as,A)->ids.take k=List.range k ->
   ∃σ',Inv B w0 σ' (JP A ids) w/\Ext σ0 ws σ' w/\AV σ' w (IC (ids.idxOf ·) as) vs:=by
  intro args as vs ids A I hp hk;obtain⟨hs,hm,_,σ1,z,F,G⟩:=Z4d h.inv I hp;have C:=Z4s z hs w0 z.below z.old (fun b hb=>by
   obtain⟨k1,k2,k3,k4⟩:=z.kept b hb
   grind)
  refine⟨_,C,?_,iU G hm⟩;have:=(hx.trans F).ren hk;exact⟨fun id L O=>this.box id L (Q id L O) O,this.fz,this.mp⟩
 refine⟨h.calm,u,?_⟩;unfold yO at q;split at q
 ·rename_i vs;split at q
  ·rename_i ids as A hp;split at q
   ·rename_i hk;simp only[Option.some.injEq]at q;subst q;cases D with
    | BK S _=>
     obtain⟨σ',J,M,N⟩:=key S hp hk;exact⟨σ',hu,J,M,.BK N .nil⟩
   ·cases q
  ·cases q
 ·split at q
  ·rename_i ids x A hp;split at q
   ·rename_i hk;simp only[Option.some.injEq]at q;subst q;obtain⟨σ',J,M,N⟩:=key D hp hk;exact⟨σ',hu,J,M,N⟩
   ·cases q
  ·cases q
theorem Zhj (S:DV E) (Y:E.P=P) (A:Jo P E B w0 call) (G:Ou E call) {k:Nat} {Z:St->V×Heap->Prop} {F:V×Heap->Act->World->Prop} {σ0:Sg} {ws:World}
  (hZ:∀st r σ a w,Z st r->F5 E B w0 σ st a w->PY k σ0 ws σ w->F r a w) {ctl:YB} {K:List Fr} {st:St} {r:V×Heap} (h:Dn call E f fn k Z ctl K st r) :
  jB E f ctl=true->NU E f K=true->∀(σ:Sg) (a:Act) (w:World),F5 E B w0 σ st a w->PY k σ0 ws σ w->Z50 P (F r) K a w ctl:=by
 induction h with
 | skip h z=>intro hc hk σ a w q hf;exact wp_skip (z rfl hk σ a w q hf)
 | region hs h z=>
  intro hc hk σ a w q hf;exact wp_region (ZgR S Y A _ _ σ a w q hs (fun N w' σ' I D =>z rfl hk σ' N w' I (hf.trans D)))
 | draw C hs h z=>
  intro hc hk σ a w q hf;refine Zhc S Y (by rw[<- Y];exact S.mix) A G ?_ q hs (fun N w' σ' I D =>z rfl hk σ' N w' I (hf.trans D));simpa[jB,Eo,C]using hc
 | seq h z=>
  intro hc hk σ a w q hf;simp only[jB,Eo,Bool.and_eq_true]at hc;exact wp_seq (z hc.1 (by simp[NU,hc.2,hk]) σ a w q hf)
 | cond O h z=>
  rename_i c x y t K st r;intro hc hk σ a w q hf;simp only[jB,Eo,Bool.and_eq_true]at hc;have hv:=Et (a:=a) q.FM q.slots c;rw[O]at hv;have hb:a.eval c = .bool t:=by generalize a.eval c=v at hv;cases hv;rfl
  refine wp_cond hb ?_;refine z ?_ hk σ a w q hf;cases t
  ·exact hc.2
  ·exact hc.1
 | block h z=>
  intro hc hk σ a w q hf;exact wp_block (z hc hk σ a w q hf)
 | loop h z=>
  intro hc hk σ a w q hf;simp only[jB,Eo]at hc;exact(LoopIn.of (z hc (by simp[NU,hc,hk]) σ a w q hf)).wp
 | scope h z=>
  intro hc hk σ a w q hf;have Q:=z hc hk σ a w q hf;refine wp_scope_straight (wp_mono Q fun e N w' hq=>?_);cases e with
  | goto l=>exact(wJ _ hq).elim
  | _=>exact hq
 | label h z=>intro hc hk σ a w q hf;exact wp_label (z rfl hk σ a w q hf)
 | exit h z=>intro hc hk σ a w q hf;exact wp_exit (z rfl hk σ a w q hf)
 | ret h z=>intro hc hk σ a w q hf;exact wp_ret (z rfl hk σ a w q hf)
 | nseq h z=>
  intro hc hk σ a w q hf;simp only[NU,Bool.and_eq_true]at hk;exact z hk.1 hk.2 σ a w q hf
 | nblk h z=>intro hc hk σ a w q hf;exact z rfl hk σ a w q hf
 | Zig h z=>
  intro hc hk σ a w q hf;have J :=hk;simp only[NU,Bool.and_eq_true]at J;exact LoopIn.of (z J.1 hk σ a w q hf)
 | eseq h z=>
  intro hc hk σ a w q hf;simp only[NU,Bool.and_eq_true]at hk;exact z rfl hk.2 σ a w q hf
 | Zit h z=>
  intro hc hk σ a w q hf;simp only[NU,Bool.and_eq_true]at hk;exact z rfl hk.2 σ a w q hf
 | eblk h z=>
  intro hc hk σ a w q hf;have:=z rfl hk σ a w q hf;simp only[Z50,QK,Exit.inBlock,if_true];exact this
 | Zim hne h z=>
  intro hc hk σ a w q hf;have:=z rfl hk σ a w q hf;simp only[Z50,QK,Exit.inBlock,hne,if_false];exact this
 | rany h z=>
  rename_i x K st r;intro hc hk σ a w q hf;have:NU E f K=true:=by cases x<;>simp_all [NU]
  have:=z rfl this σ a w q hf;cases x<;>exact this
 | finN hz=>intro hc hk σ a w q hf;exact hZ _ _ σ a w hz q hf
 | finR hz=>intro hc hk σ a w q hf;exact hZ _ _ σ a w hz q hf
 | tidy O h z=>intro hc hk σ a w q hf;exact z hc hk _ a w (ZFs O q) (hf.ren O.pre)
 | Zin hp M h z=>
  intro hc hk σ a w q hf;obtain⟨σ1,Q,h2⟩:=ZDj hp q;exact z hc hk _ a w h2 ((hf.trans Q).ren M)
end
end Go.Proofs.YtjodhcdmhobmoaaGreatDoor.Le
namespace Go.Proofs.YtjodhcdmhobmoaaGreatDoor.Le
open Go.RowKit (Below)
section
variable {U:DI}
def XD:List Bool->Bool
 | []=>true
 | [b]=>b
 | b::q=>b&&XD q
theorem ZeT:∀{l:List Bool},XD l=true->∀b∈l,b=true:=by
 intro l;induction l with
 | nil=>simp_all
 | cons x xs q=>
  intro h b hb;cases xs with
  | nil=>simp only[XD]at h;simp only[List.mem_singleton]at hb;rw[hb];exact h
  | cons y ys=>
   simp only[XD,Bool.and_eq_true]at h
   grind
def resT (E:Env) (H:BI U) (s:List (SV U.Ty)):ResultVar->Tr U (SV U.Ty)
 | .tmp t=>.leaf (s.getD t .und)
 | .cell a t=>loadT E H t (s.getD a .und)
def XW (E:Env) (H:BI U) (s:List (SV U.Ty)):List ResultVar->Tr U (List (SV U.Ty))
 | []=>.leaf []
 | r::rs=>(resT E H s r).andThen fun v=>(XW E H s rs).andThen fun vs=>.leaf (v::vs)
def Ui:List Nat->List (SV U.Ty)->Option (List (SV U.Ty))
 | [],[]=>some []
 | t::ts,w::ws=>match U.IP t w,Ui ts ws with|some a,some r=>some (U.encS t a::r)|_,_=>none
 | _,_=>none
def Z51 (E:Env) (fn:Func) (st:Dz U):Tr U (SV U.Ty):=
 (XW E st.H st.s fn.results.toList).andThen fun vs=>
  match vs,fn.resultTypes.toList with
  | [v],[t]=>(Su st.H v).andThen fun w=>(match U.IP t w with|some a=>.leaf (U.encS t a)|none=>.fail)
  | vs,ts=>.when (vs.length≠1) ((QV st.H vs).andThen fun ws=>(match Ui ts ws with|some es=>.leaf (.BK es)|none=>.fail))
theorem Zgz {E:Env} (A:Dw U E) {st:Dz U}:∀{rs:List ResultVar} {vs:List (SV U.Ty)},(XW E st.H st.s rs).A7 vs->rs.mapM (resD E (DL U st).H (DL U st).s)=some (BB U vs):=by
 intro rs;induction rs with
 | nil=>intro vs h;simp only[XW,Tr.A7]at h;subst h;rfl
 | cons r rs D=>
  intro vs h;simp only[XW,Eg,Tr.A7]at h;obtain⟨v,q,ws,z,rfl⟩:=h;have C:resD E (DL U st).H (DL U st).s r=some (AY U v):=by
   cases r with
   | tmp t=>
    simp only[resT,Tr.A7]at q;subst q;exact congrArg some (WW st.s t)
   | cell a t=>
    simp only[resD];rw[show (DL U st).s.getD a .und=AY U (st.s.getD a .und) from WW st.s a];exact ZgC A q
  rw[List.mapM_cons,C,D z];rfl
theorem ZAM {E:Env} (q:Dw U E):∀{ts:List Nat} {ws es:List (SV U.Ty)},Ui ts ws=some es->Oq (ts.map E.rows) (BB U ws)=BB U es:=by
 intro ts;induction ts with
 | nil=>
  intro ws es h;cases ws with
  | nil=>simp only[Ui,Option.some.injEq]at h;subst h;rfl
  | cons=>simp[Ui]at h
 | cons t ts C=>
  intro ws es h;cases ws with
  | nil=>simp[Ui]at h
  | cons w ws=>
   simp only[Ui]at h;split at h
   ·rename_i a r z A;simp only[Option.some.injEq]at h;subst h;simp only[List.map_cons,BB,Oq,q.dec _ _ _ z,q.encS,C A]
   ·cases h
theorem ZES {H:Heap} {x y:V} (h:Ie H x=some y):∀vs,y≠.BK vs:=by
 intro vs q;subst q;unfold Ie at h;split at h
 ·simp_all
 ·unfold Ia at h
  grind
theorem ZCT {E:Env} (z:Dw U E) {fn:Func} {st:Dz U} {v:SV U.Ty} (h:(Z51 E fn st).A7 v) :
  ∃I J,Lc E (DL U st).H (DL U st).s fn.results.toList=some I/\Jz (DL U st).H I=some J/\Rz (fn.resultTypes.toList.map E.rows) J=AY U v:=by
 unfold Z51 at h;simp only[Eg]at h;obtain⟨vs,N,h⟩:=h;have hm:=Zgz z N;split at h
 ·rename_i M t D;simp only[Eg]at h;obtain⟨w,A,h⟩:=h;split at h
  ·rename_i a O;simp only[Tr.A7]at h;subst h;have hf:Ie (DL U st).H (AY U M)=some (AY U w):=wE A;refine⟨AY U M,AY U w,by simp only[Lc,hm,BB],?_,?_⟩
   ·unfold Jz;split
    ·rename_i us q;rw[q]at hf;simp[Ie,Ia]at hf
    ·exact hf
   ·rw[D];unfold Rz;split
    ·rename_i us q;exact absurd q (ZES hf us)
    ·simp only[List.map_cons,List.headD_cons,z.dec _ _ _ O,z.encS]
  ·simp[Tr.A7]at h
 ·rename_i Q vs ts F;simp only[Es,Eg]at h;obtain⟨hl,ws,A,h⟩:=h;split at h
  ·rename_i es C;simp only[Tr.A7]at h;subst h;refine⟨.BK (BB U Q),.BK (BB U ws),?_,?_,?_⟩
   ·simp only[Lc,hm];split
    ·rename_i x G;simp only[Option.some.injEq]at G;exfalso;apply hl;have:=congrArg List.length G;rw[JY]at this;simpa using this
    ·simp_all
    simp_all
   ·simp only[Jz,DL,Z2o A,Option.map_some]
   ·simp only[Rz,ZAM z C,AY]
  ·simp[Tr.A7]at h
def XQ (E:Env) (fn:Func) (st:Dz U):Tr U (SV U.Ty×BI U):=(Z51 E fn st).andThen fun v=>.leaf (v,[])
def Z4R (E:Env) (fn:Func) (fa:List (List Fk)) (fb:List Bf) (k:Nat) (st:Dz U):Tr U (SV U.Ty×BI U):=
 (XW E st.H st.s fn.results.toList).andThen fun vs=>
  match vs with
  | [.BK _]=>.fail
  | [.raw _]=>.fail
  | [v]=>(XP fa fb k [v] st.H).andThen fun r=>(match r.2.1 with
   | [a]=>.when (r.1.take k=List.range k) (.leaf (GR (r.1.idxOf ·) a,X3 r.2.2 r.1))
   | _=>.fail)
  | vs=>.when (vs.length≠1) ((XP fa fb k vs st.H).andThen fun r=>.when (r.1.take k=List.range k) (.leaf (.BK (OO (r.1.idxOf ·) r.2.1),X3 r.2.2 r.1)))
theorem ZCJ {E:Env} (D:Dw U E) {fn:Func} {st:Dz U} {r:SV U.Ty×BI U} (h:(XQ E fn st).A7 r):Zp E fn (DL U st) (AY U r.1,BP U r.2):=by
 simp only[XQ,Eg,Tr.A7]at h;obtain⟨v,C,rfl⟩:=h;obtain⟨F,G,q,z,A⟩:=ZCT D C;exact⟨F,G,q,z,by rw[A];rfl⟩
theorem ZCM {E:Env} (J:Dw U E) {fn:Func} {fa:List (List Fk)} {fb:List Bf} {k:Nat} {st:Dz U} {r:SV U.Ty×BI U} (h:(Z4R E fn fa fb k st).A7 r):Zh E fn fa fb k (DL U st) (AY U r.1,BP U r.2):=by
 simp only[Z4R,Eg]at h;obtain⟨vs,I,h⟩:=h;have hm:=Zgz J I;split at h
 ·simp[Tr.A7]at h
 ·simp[Tr.A7]at h
 ·rename_i v A C;simp only[Eg]at h;obtain⟨p,hp,h⟩:=h;split at h
  ·rename_i a M;simp only[Es,Tr.A7]at h;obtain⟨hk,rfl⟩:=h;have q :=vP hp;rw[M]at q;refine⟨AY U v,by simp only[Lc,hm,BB],?_⟩;have D:∀cs,AY U v≠.BK cs:=by
    intro cs z;cases v with
    | BK vs=>exact A vs rfl
    | raw x=>exact C x rfl
    | _=>simp[AY]at z
   unfold yO;split
   ·rename_i cs z;exact absurd z (D cs)
   ·simp only[BB]at q;simp only[DL,q];rw[if_pos hk,vZ,uI]
  ·simp[Tr.A7]at h
 ·rename_i F;simp only[Es,Eg,Tr.A7]at h;obtain⟨hl,p,hp,hk,rfl⟩:=h;have q :=vP hp;refine⟨.BK (BB U vs),?_,?_⟩
  ·simp only[Lc,hm];split
   ·rename_i x G;simp only[Option.some.injEq]at G;exfalso;apply hl;have:=congrArg List.length G;rw[JY]at this;simpa using this
   ·simp_all
   simp_all
  ·simp only[yO,DL,q];rw[if_pos hk,uI];simp only[AY,QN]
inductive Xn (U:DI) where
 | done (v:SV U.Ty×BI U)
 | jump (c:Code) (K:List Fr) (st:Dz U)
def ZDo (call:EO) (E:Env) (f:FuncId) (fn:Func) (q:Nat) (Z:St->V×Heap->Prop):Xn U->V×Heap->Prop
 | .done s,v=>v=(AY U s.1,BP U s.2)
 | .jump c K st,v=>Dn call E f fn q Z (.run c) K (DL U st) v
end
end Go.Proofs.YtjodhcdmhobmoaaGreatDoor.Le
namespace Go.Proofs.YtjodhcdmhobmoaaGreatDoor.Le
inductive Pc where
 | v (t n:Nat) (agg:Bool)
 | own (e j:Nat)
 | ptr (j:Nat)
 | fn (f:FuncId) (a b:List Nat)
 | no
 | und
 | kY (ptr:Bool)
inductive Sp where
 | one (c:Pc)
 | agg (cs:List Pc)
inductive Pb where
 | var (e m:Nat) (p:Sp)
 | row (t:Nat) (fresh:Bool)
structure Shape where
 args:List Sp
 boxes:List Pb
abbrev Sp.cells:Sp->List Pc
 | .one c=>[c]
 | .agg cs=>cs
section
variable (U:DI)
@[reducible] def PX:List Pc->Type
 | []=>Unit
 | .v t _ _::ps=>U.Ty t×PX ps
 | _::ps=>PX ps
@[reducible] def AX:List Sp->Type
 | []=>Unit
 | p::ps=>PX U p.cells×AX ps
@[reducible] def BX:List Pb->Type
 | []=>Unit
 | .var _ _ p::q=>PX U p.cells×BX q
 | .row t _::q=>List (U.Ty t)×BX q
@[reducible] def Shape.X (s:Shape):Type:=AX U s.args×BX U s.boxes
variable {U}
def Jb:(q:List Pb)->BX U q->List Nat
 | [],_=>[]
 | .var _ _ _::q,x=>1::Jb q x.2
 | .row _ _::q,x=>x.1.length::Jb q x.2
def kS (j:Nat):SV U.Ty:=.ptr j 0 0 1
def nulS:Bool->SV U.Ty
 | true=>.lit (.pointer none)
 | false=>.lit .nilFunc
def Z4J:Bool->SV U.Ty->Bool
 | true,.lit (.pointer none)=>true
 | false,.lit .nilFunc=>true
 | _,_=>false
theorem ZDq {b:Bool} {c:SV U.Ty} (h:Z4J b c=true):c=nulS b:=by
 unfold Z4J at h;split at h<;>first|rfl|cases h
def Eh (ls:List Nat):(ps:List Pc)->PX U ps->List (SV U.Ty)
 | [],_=>[]
 | .v t _ _::ps,x=>cellsS (U.encS t x.1)++Eh ls ps x.2
 | .own _ j::ps,x=>.all j (ls.getD j 0)::Eh ls ps x
 | .ptr j::ps,x=>kS j::Eh ls ps x
 | .fn f a b::ps,x=>.fn f (a.map kS) (b.map kS)::Eh ls ps x
 | .no::ps,x=>.no::Eh ls ps x
 | .und::ps,x=>.und::Eh ls ps x
 | .kY b::ps,x=>nulS b::Eh ls ps x
def JO (ls:List Nat):(p:Sp)->PX U p.cells->SV U.Ty
 | .one c,x=>(Eh ls [c] x).headD .und
 | .agg cs,x=>.agg (Eh ls cs x)
def Ju (ls:List Nat):(ps:List Sp)->AX U ps->List (SV U.Ty)
 | [],_=>[]
 | p::ps,x=>JO ls p x.1::Ju ls ps x.2
def Ib (ls:List Nat):(q:List Pb)->BX U q->BI U
 | [],_=>[]
 | .var e m p::q,x=>.var e m (JO ls p x.1)::Ib ls q x.2
 | .row t fresh::q,x=>.row t x.1 (if fresh then none else some x.1.length)::Ib ls q x.2
def Shape.enc (s:Shape) (x:s.X U):List (SV U.Ty)×BI U:=(Ju (Jb s.boxes x.2) s.args x.1,Ib (Jb s.boxes x.2) s.boxes x.2)
def Q9:SV U.Ty->Bool
 | .nil _ | .raw _ | .agg _ | .BK _ | .O3 _ | .VI ..=>false
 | _=>true
def Uk:List Nat->List (SV U.Ty)->Bool
 | [],[]=>true
 | j::q,.ptr i a b c::xs=>decide (i=j/\a=0/\b=0/\c=1)&&Uk q xs
 | _,_=>false
def X8 (H:BI U):List Nat:=H.map fun b=>match b with | .row _ xs _=>xs.length|_=>1
def GY (ls:List Nat):(ps:List Pc)->List (SV U.Ty)->Option (PX U ps×List Bool)
 | [],cs=>if cs.isEmpty then some ((),[]) else none
 | .v t n true::ps,cs=>if (cs.take n).length=n/\(cs.take n).all Q9=true then
   (match U.IP t (.agg (cs.take n)),GY ls ps (cs.drop n) with
    | some a,some r=>some ((a,r.1),r.2)
    | _,_=>none) else none
 | .v t _ false::ps,c::cs=>if Q9 c then
   (match U.IP t c,GY ls ps cs with
    | some a,some r=>some ((a,r.1),r.2)
    | _,_=>none) else none
 | .own _ j::ps,.all i n::cs=>if i=j then (GY ls ps cs).map fun r=>(r.1,(ls.getD j 0==n)::r.2) else none
 | .ptr j::ps,.ptr i a b c::cs=>if i=j/\a=0/\b=0/\c=1 then GY ls ps cs else none
 | .fn f a b::ps,.fn g q z :: cs=>if g=f/\Uk a q = true/\Uk b z = true then GY ls ps cs else none
 | .no::ps,.no::cs=>GY ls ps cs
 | .und::ps,.und::cs=>GY ls ps cs
 | .kY b::ps,c::cs=>if Z4J b c=true then GY ls ps cs else none
 | _::_,_=>none
def yJ (ls:List Nat):(p:Sp)->SV U.Ty->Option (PX U p.cells×List Bool)
 | .one c,x=>GY ls [c] [x]
 | .agg cs,.agg xs=>GY ls cs xs
 | _,_=>none
def Xj (ls:List Nat):(ps:List Sp)->List (SV U.Ty)->Option (AX U ps×List Bool)
 | [],[]=>some ((),[])
 | p::ps,x::xs=>(match yJ ls p x,Xj ls ps xs with
  | some a,some r=>some ((a.1,r.1),a.2++r.2)
  | _,_=>none)
 | _,_=>none
def TC (ls:List Nat):(q:List Pb)->BI U->Option (BX U q×List Bool)
 | [],[]=>some ((),[])
 | .var e m p::q,.var z A x::H=>if z = e/\A = m then
   (match yJ ls p x,TC ls q H with
    | some a,some r=>some ((a.1,r.1),a.2++r.2)
    | _,_=>none) else none
 | .row t fresh::q,.row C xs fl::H=>if h:C = t then
   (match fresh,fl,TC ls q H with
    | true,none,some r=>some ((h▸xs,r.1),r.2)
    | false,some n,some r=>some ((h▸xs,r.1),(n==xs.length)::r.2)
    | _,_,_=>none) else none
 | _,_=>none
def Shape.dec (s:Shape) (as:List (SV U.Ty)) (H:BI U):Option (s.X U×List Bool):=
 match Xj (X8 H) s.args as,TC (X8 H) s.boxes H with
 | some a,some b=>some ((a.1,b.1),a.2++b.2)
 | _,_=>none
theorem Zbs {x:SV U.Ty} (h:Q9 x=true) (e:Nat):Gz e (AY U x)=AY U x:=by
 cases x<;>simp_all [Q9,AY,Gz]
theorem Zt1 {x:SV U.Ty} (h:Q9 x=true):(AY U x).cells=[AY U x]:=by
 cases x<;>first|rfl|(simp[Q9]at h)
theorem Zxz {x:SV U.Ty} (h:Q9 x=true):∀cs,AY U x≠.agg cs:=by
 intro cs hc;cases x<;>first|(cases hc;done)|(simp[Q9]at h)
theorem ZsZ:∀{xs:List (SV U.Ty)},xs.all Q9=true->∀es,Gp es (BB U xs)=BB U xs:=by
 intro xs;induction xs with
 | nil=>intro _ es;cases es<;>rfl
 | cons x xs q=>
  intro h es;simp only[List.all_cons,Bool.and_eq_true]at h;cases es with
  | nil=>rfl
  | cons e es=>simp only[BB,Gp,Zbs h.1,q h.2]
theorem Rj (xs ys:List (SV U.Ty)):BB U (xs++ys)=BB U xs++BB U ys:=by simp[FU]
theorem Zf0:∀{q:List Nat} {xs:List (SV U.Ty)},Uk q xs=true->xs=q.map kS:=by
 intro q;induction q with
 | nil=>intro xs h;cases xs with
  | nil=>rfl
  | cons=>simp[Uk]at h
 | cons j q A=>
  intro xs h;cases xs with
  | nil=>simp[Uk]at h
  | cons x xs=>
   cases x<;>simp[Uk]at h;obtain⟨⟨rfl,rfl,rfl,rfl⟩,z⟩:=h;rw[A z];rfl
theorem Zh7 {E:Env} (F:Dw U E) (ls:List Nat):∀(ps:List Pc) {cs:List (SV U.Ty)} {r:PX U ps×List Bool},GY ls ps cs=some r->(∀b∈r.2,b=true)->BB U cs=BB U (Eh ls ps r.1):=by
 intro ps;induction ps with
 | nil=>
  intro cs r h _;simp only[GY]at h;split at h
  ·rename_i hc;cases cs with
   | nil=>rfl
   | cons=>simp at hc
  ·cases h
 | cons p ps z=>
  intro cs r h hb;cases p with
  | v t n N=>
   cases N with
   | true=>
    simp only[GY]at h;split at h
    ·rename_i hc;split at h
     ·rename_i a M D C;simp only[Option.some.injEq]at h;subst h;have e:=F.dec t _ a D;simp only[AY,EU]at e;rw[ZsZ hc.2]at e;have A:=F.cells t a;rw[<- e]at A;simp only[V.cells]at A;simp only[Eh,Rj,<- A,<- z C hb];rw[<- Rj,List.take_append_drop]
     ·cases h
    ·cases h
   | false=>
    cases cs with
    | nil=>simp[GY]at h
    | cons c cs=>
     simp only[GY]at h;split at h
     ·rename_i hc;split at h
      ·rename_i a M D C;simp only[Option.some.injEq]at h;subst h;have e:=F.dec t _ a D;have Q:∀es,EU es (AY U c)=AY U c:=by
        intro es;unfold EU;split
        ·rename_i I J;exact absurd J (Zxz hc I)
        ·exact Zbs hc _
       rw[Q]at e;have A:=F.cells t a;rw[<- e]at A;rw[Zt1 hc]at A;simp only[Eh,Rj,<- A,<- z C hb];rfl
      ·cases h
     ·cases h
  | own e j=>
   cases cs with
   | nil=>simp[GY]at h
   | cons c cs=>
    cases c<;>simp only[GY]at h<;>try (cases h;done)
    split at h
    ·rename_i q;subst q;simp only[Option.map_eq_some_iff]at h;obtain⟨M,C,rfl⟩:=h;have G:=hb _ (List.mem_cons_self ..);simp only[beq_iff_eq]at G;simp only[Eh,BB,AY,G,z C (fun b O=>hb b (by simp[O]))]
    ·cases h
  | ptr j=>
   cases cs with
   | nil=>simp[GY]at h
   | cons c cs=>
    cases c<;>simp only[GY]at h<;>try (cases h;done)
    split at h
    ·rename_i q;obtain⟨rfl,rfl,rfl,rfl⟩:=q;simp only[Eh,BB,kS,z h hb]
    ·cases h
  | fn f a b=>
   cases cs with
   | nil=>simp[GY]at h
   | cons c cs=>
    cases c<;>simp only[GY]at h<;>try (cases h;done)
    split at h
    ·rename_i q;obtain⟨rfl,D,C⟩:=q;rw[Zf0 D,Zf0 C];simp only[Eh,BB,z h hb]
    ·cases h
  | no=>
   cases cs with
   | nil=>simp[GY]at h
   | cons c cs=>
    cases c<;>simp only[GY]at h<;>try (cases h;done)
    simp only[Eh,BB,z h hb]
  | und=>
   cases cs with
   | nil=>simp[GY]at h
   | cons c cs=>
    cases c<;>simp only[GY]at h<;>try (cases h;done)
    simp only[Eh,BB,z h hb]
  | kY b=>
   cases cs with
   | nil=>simp[GY]at h
   | cons c cs=>
    simp only[GY]at h;split at h
    ·rename_i G;rw[ZDq G];simp only[Eh,BB,z h hb]
    ·cases h
theorem ZgE {E:Env} (q:Dw U E) (ls:List Nat) {p:Sp} {x:SV U.Ty} {r:PX U p.cells×List Bool} (h:yJ ls p x=some r) (hb:∀b∈r.2,b=true):AY U x=AY U (JO ls p r.1):=by
 cases p with
 | one c=>
  have:=Zh7 q ls [c] h hb;simp only[BB]at this;cases hp:Eh ls [c] r.1 with
  | nil=>rw[hp]at this;cases this
  | cons y ys=>
   rw[hp]at this;simp only[BB,List.cons.injEq]at this;simp only[JO]
   simp_all
 | agg cs=>
  cases x<;>simp only[yJ]at h<;>try (cases h;done)
  have:=Zh7 q ls cs h hb;simp only[JO,AY,this]
theorem ZGa {E:Env} (C:Dw U E) (ls:List Nat):∀(ps:List Sp) {cs:List (SV U.Ty)} {r:AX U ps×List Bool},Xj ls ps cs=some r->(∀b∈r.2,b=true)->BB U cs=BB U (Ju ls ps r.1):=by
 intro ps;induction ps with
 | nil=>
  intro cs r h _;cases cs with
  | nil=>rfl
  | cons=>simp[Xj]at h
 | cons p ps D=>
  intro cs r h hb;cases cs with
  | nil=>simp[Xj]at h
  | cons c cs=>
   simp only[Xj]at h;split at h
   ·rename_i a F z A;simp only[Option.some.injEq]at h;subst h;simp only[Ju,BB,ZgE C ls z (fun b q=>hb b (by simp[q])),D A (fun b q=>hb b (by simp[q]))]
   ·cases h
theorem ZFi {E:Env} (N:Dw U E) (ls:List Nat):∀(q:List Pb) {H:BI U} {r:BX U q×List Bool},TC ls q H=some r->(∀b∈r.2,b=true)->BP U H=BP U (Ib ls q r.1)/\Jb q r.1=X8 H:=by
 intro q;induction q with
 | nil=>
  intro H r h _;cases H with
  | nil=>exact⟨rfl,rfl⟩
  | cons=>simp[TC]at h
 | cons b q F=>
  intro H r h hb;cases H with
  | nil=>cases b<;>simp[TC]at h
  | cons x H=>
   cases b with
   | var e m p=>
    cases x<;>simp only[TC]at h<;>try (cases h;done)
    split at h
    ·rename_i O;obtain⟨rfl,rfl⟩:=O;split at h
     ·rename_i a I M C;simp only[Option.some.injEq]at h;subst h;obtain⟨z,A⟩:=F C (fun b D=>hb b (by simp[D]));have J:=ZgE N ls M (fun b D=>hb b (by simp[D]));refine⟨?_,?_⟩
      ·simp only[BP,Ib,List.map_cons,DK,J];exact congrArg _ z
      ·simp only[Jb,X8,List.map_cons,A]
     ·cases h
    ·cases h
   | row t fresh=>
    cases x<;>simp only[TC]at h<;>try (cases h;done)
    rename_i S xs fl;split at h
    ·rename_i Q;subst Q;split at h
     ·rename_i I C;simp only[Option.some.injEq]at h;subst h;obtain⟨z,A⟩:=F C hb;refine⟨?_,?_⟩
      ·simp only[BP,Ib,List.map_cons,if_true];exact congrArg _ z
      ·simp only[Jb,X8,List.map_cons,A]
     ·rename_i n I C;simp only[Option.some.injEq]at h;subst h;obtain⟨z,A⟩:=F C (fun b D=>hb b (by simp[D]));have G:=hb _ (List.mem_cons_self ..);simp only[beq_iff_eq]at G;refine⟨?_,?_⟩
      ·simp only[BP,Ib,List.map_cons,Bool.false_eq_true,if_false,DK,G];exact congrArg _ z
      ·simp only[Jb,X8,List.map_cons,A]
     ·cases h
    ·cases h
theorem Shape.xP {E:Env} (z:Dw U E) {s:Shape} {as:List (SV U.Ty)} {H:BI U} {r:s.X U×List Bool} (h:s.dec as H=some r) (hb:∀b∈r.2,b=true):BB U as=BB U (s.enc r.1).1/\BP U H=BP U (s.enc r.1).2:=by
 unfold Shape.dec at h;split at h
 ·rename_i a b F G;simp only[Option.some.injEq]at h;subst h;obtain⟨A,C⟩:=ZFi z _ _ G (fun b q=>hb b (by simp[q]));have D:=ZGa z _ _ F (fun b q=>hb b (by simp[q]));simp only[Shape.enc,C];exact⟨D,A⟩
 ·cases h
variable (U)
def yQ:Pc->Prop
 | .v t n true=>t∈U.keys/\∀a,∃cs,U.encS t a = .agg cs/\cs.length=n
 | .v t n false=>t∈U.keys/\∀a,cellsS (U.encS t a)=[U.encS t a]
 | _=>True
def zF:List Pc->Prop
 | []=>True
 | p::ps=>yQ U p/\zF ps
def yX:Sp->Prop
 | .one (.v _ _ true)=>False
 | .one c=>yQ U c
 | .agg cs=>zF U cs
def yS:List Sp->Prop
 | []=>True
 | p::ps=>yX U p/\yS ps
def kR:List Pb->Prop
 | []=>True
 | .var _ _ p::q=>yX U p/\kR q
 | .row t _::q=>t∈U.keys/\kR q
def Shape.OK (s:Shape):Prop:=yS U s.args/\kR U s.boxes
variable {U}
def YA (k1:List Nat) (q:List (Nat×Nat)):Pc->Bool
 | .v t n true=>q.contains (t,n)
 | .v t _ false=>k1.contains t
 | _=>true
def zL (k1:List Nat) (q:List (Nat×Nat)):Sp->Bool
 | .one (.v _ _ true)=>false
 | .one c=>YA k1 q c
 | .agg cs=>cs.all (YA k1 q)
def pbB (U:DI) (k1:List Nat) (q:List (Nat×Nat)):Pb->Bool
 | .var _ _ p=>zL k1 q p
 | .row t _=>U.keys.contains t
def shB (U:DI) (k1:List Nat) (q:List (Nat×Nat)) (s:Shape):Bool:=s.args.all (zL k1 q)&&s.boxes.all (pbB U k1 q)
theorem Shape.ok_of {k1:List Nat} {z:List (Nat×Nat)} (J:∀t∈k1,t∈U.keys/\∀a,cellsS (U.encS t a)=[U.encS t a]) (M:∀p∈z,p.1∈U.keys/\∀a,∃cs,U.encS p.1 a = .agg cs/\cs.length=p.2) {s:Shape} (h:shB U k1 z s=true):s.OK U:=by
 have hp:∀c,YA k1 z c=true->yQ U c:=by
  intro c hc;cases c with
  | v t n D=>cases D with
   | true=>exact M (t,n) (by simpa[YA]using hc)
   | false=>exact J t (by simpa[YA]using hc)
  | _=>trivial
 have I:∀cs:List Pc,cs.all (YA k1 z)=true->zF U cs:=by
  intro cs;induction cs with
  | nil=>intro _;trivial
  | cons c cs A=>intro h;simp only[List.all_cons,Bool.and_eq_true]at h;exact⟨hp c h.1,A h.2⟩
 have C:∀p,zL k1 z p=true->yX U p:=by
  intro p G;cases p with
  | agg cs=>exact I cs G
  | one c=>cases c with
   | v t n D=>cases D with
    | true=>cases G
    | false=>exact hp (.v t n false) G
   | _=>trivial
 have has:∀l:List Sp,l.all (zL k1 z)=true->yS U l:=by
  intro l;induction l with
  | nil=>intro _;trivial
  | cons p l A=>intro h;simp only[List.all_cons,Bool.and_eq_true]at h;exact⟨C p h.1,A h.2⟩
 have F:∀l:List Pb,l.all (pbB U k1 z)=true->kR U l:=by
  intro l;induction l with
  | nil=>intro _;trivial
  | cons p l A=>
   intro h;simp only[List.all_cons,Bool.and_eq_true]at h;cases p with
   | var e m q=>exact⟨C q h.1,A h.2⟩
   | row t N=>exact⟨by simpa[pbB]using h.1,A h.2⟩
 unfold shB at h;rw[Bool.and_eq_true]at h;exact⟨has _ h.1,F _ h.2⟩
theorem Zgq {E:Env} (A:Dw U E) {ls ls' : List Nat}:∀{ps:List Pc} {x y:PX U ps},zF U ps->BB U (Eh ls ps x)=BB U (Eh ls' ps y)->x=y:=by
 intro ps;induction ps with
 | nil=>intro x y _ _;rfl
 | cons p ps z=>
  intro x y hk h;obtain⟨hp,hk⟩:=hk;cases p with
  | v t n F=>
   obtain⟨a,J⟩:=x;obtain⟨b,M⟩:=y;simp only[Eh,Rj]at h;have key:BB U (cellsS (U.encS t a))=BB U (cellsS (U.encS t b))/\BB U (Eh ls ps J)=BB U (Eh ls' ps M)/\U.enc t a=U.enc t b/\t∈U.keys:=by
    cases F with
    | true=>
     obtain⟨hm,hl⟩:=hp;obtain⟨N,C,I⟩:=hl a;obtain⟨O,D,lb⟩:=hl b;have:=List.append_inj h (by rw[JY,JY,C,D];simp only[cellsS,I,lb]);refine⟨this.1,this.2,?_,hm⟩;rw[<- A.encS,<- A.encS,C,D];have q:=this.1;rw[C,D]at q;simp only[cellsS]at q;simp only[AY,q]
    | false=>
     obtain⟨hm,hl⟩:=hp;have:=List.append_inj h (by simp_all;rfl);refine⟨this.1,this.2,?_,hm⟩;have q:=this.1;rw[hl a,hl b]at q;simp only[BB,List.cons.injEq,and_true,A.encS]at q;exact q
   obtain⟨_,Q,G,hm⟩:=key;have S:=A.inj t hm a b G
   grind
  | own e j=>
   simp only[Eh,BB,List.cons.injEq]at h;exact z hk h.2
  | ptr j=>
   simp only[Eh,BB,List.cons.injEq]at h;exact z hk h.2
  | fn f a b=>
   simp only[Eh,BB,List.cons.injEq]at h;exact z hk h.2
  | no=>
   simp only[Eh,BB,List.cons.injEq]at h;exact z hk h.2
  | und=>
   simp only[Eh,BB,List.cons.injEq]at h;exact z hk h.2
  | kY b=>
   simp only[Eh,BB,List.cons.injEq]at h;exact z hk h.2
theorem ZfS {E:Env} (z:Dw U E) {ls ls' : List Nat} {p:Sp} {x y:PX U p.cells} (hk:yX U p) (h:AY U (JO ls p x)=AY U (JO ls' p y)):x=y:=by
 cases p with
 | one c=>
  cases c with
  | v t n A=>
   cases A with
   | true=>exact hk.elim
   | false=>
    obtain⟨a,C⟩:=x;obtain⟨b,D⟩:=y;have q : yQ U (.v t n false):=hk;refine Zgq z (ps:=[.v t n false]) ⟨q,trivial⟩ (ls:=ls) (ls' :=ls') ?_;simp only[JO,Eh,q.2,List.append_nil,List.headD_cons]at h;simp only[Eh,q.2,List.append_nil,BB,h]
  | own e j=>simp_all
  | ptr j=>rfl
  | fn f a b=>rfl
  | no=>rfl
  | und=>rfl
  | kY b=>rfl
 | agg cs=>
  simp only[JO,AY,V.agg.injEq]at h;exact Zgq z hk h
theorem ZCy {E:Env} (q:Dw U E) {ls ls' : List Nat}:∀{ps:List Sp} {x y:AX U ps},yS U ps->BB U (Ju ls ps x)=BB U (Ju ls' ps y)->x=y:=by
 intro ps;induction ps with
 | nil=>intro x y _ _;rfl
 | cons p ps z=>
  intro x y hk h;obtain⟨a,A⟩:=x;obtain⟨b,C⟩:=y;simp only[Ju,BB,List.cons.injEq]at h;rw[ZfS q hk.1 h.1,z hk.2 h.2]
theorem ZwU {E:Env} (q:Dw U E) {t:Nat} (z:t∈U.keys):∀{xs ys:List (U.Ty t)},xs.map (U.enc t)=ys.map (U.enc t)->xs=ys:=by
 intro xs;induction xs with
 | nil=>intro ys h;cases ys with
  | nil=>rfl
  | cons=>cases h
 | cons x xs A=>
  intro ys h;cases ys with
  | nil=>cases h
  | cons y ys=>
   simp only[List.map_cons,List.cons.injEq]at h;rw[q.inj t z x y h.1,A h.2]
theorem ZDM {E:Env} (z:Dw U E) {ls ls' : List Nat}:∀{q:List Pb} {x y:BX U q},kR U q->BP U (Ib ls q x)=BP U (Ib ls' q y)->x=y:=by
 intro q;induction q with
 | nil=>intro x y _ _;rfl
 | cons b q A=>
  intro x y hk h;cases b with
  | var e m p=>
   obtain⟨a,C⟩:=x;obtain⟨b,D⟩:=y;simp only[Ib,BP,List.map_cons,List.cons.injEq,DK,CJ,Box.mk.injEq,true_and,and_true]at h;rw[ZfS z hk.1 h.1,A hk.2 h.2]
  | row t fresh=>
   obtain⟨a,C⟩:=x;obtain⟨b,D⟩:=y;simp only[Ib,BP,List.map_cons,List.cons.injEq,DK,Box.mk.injEq,true_and]at h;rw[ZwU z hk.1 h.1.1,A hk.2 h.2]
theorem Shape.Zht {E:Env} (A:Dw U E) {s:Shape} (hk:s.OK U) {x y:s.X U} (C:BB U (s.enc x).1=BB U (s.enc y).1) (D:BP U (s.enc x).2=BP U (s.enc y).2):x=y:=by
 obtain⟨a,b⟩:=x;obtain⟨F,G⟩:=y;have z:=ZDM A hk.2 D;simp only at z;subst z;have q:=ZCy A hk.1 C;simp only at q;rw[q]
variable (U)
structure HMod where
 fa:List (List Fk)
 fb:List Bf
 Dv:Shape
 Jv:Shape
 one:Bool
 ky:Nat
 OZ:U.Ty ky->Jv.X U
 fn:Dv.X U->Option (U.Ty ky)
 ok:Dv.OK U
variable {U}
def HMod.out (m:HMod U) (y:U.Ty m.ky):SV U.Ty×BI U:=((if m.one then (m.Jv.enc (m.OZ y)).1.headD .und else .BK (m.Jv.enc (m.OZ y)).1),(m.Jv.enc (m.OZ y)).2)
open Classical in
noncomputable def HMod.spec (m:HMod U):XR where
 fa:=m.fa
 fb:=m.fb
 run:=fun as q=>if h:∃x:m.Dv.X U,BB U (m.Dv.enc x).1=as/\BP U (m.Dv.enc x).2=q then (m.fn (Classical.choose h)).map fun y=>(AY U (m.out y).1,BP U (m.out y).2) else none
theorem HMod.ZDH {E:Env} (q:Dw U E) (m:HMod U) (x:m.Dv.X U):m.spec.run (BB U (m.Dv.enc x).1) (BP U (m.Dv.enc x).2)=(m.fn x).map fun y=>(AY U (m.out y).1,BP U (m.out y).2):=by
 have h:∃y:m.Dv.X U,BB U (m.Dv.enc y).1=BB U (m.Dv.enc x).1/\BP U (m.Dv.enc y).2=BP U (m.Dv.enc x).2:=⟨x,rfl,rfl⟩;simp only[HMod.spec,dif_pos h];rw[Shape.Zht q m.ok (Classical.choose_spec h).1 (Classical.choose_spec h).2]
def Z4w (m:HMod U) (as:List (SV U.Ty)) (H:BI U):Tr U (SV U.Ty×BI U):=
 (XP m.fa m.fb 0 as H).andThen fun r=>match m.Dv.dec (OO (r.1.idxOf ·) r.2.1) (X3 r.2.2 r.1) with
  | some x=>(match x.2 with
   | []=>.bind m.ky (m.fn x.1) fun y=>.when (r.1.length<=(m.out y).2.length) (.leaf (GR (Jr r.1 r.2.2.length) (m.out y).1,iQ r.2.2 r.1 (m.out y).2))
   | c::cs=>.chk (XD (c::cs)) (.bind m.ky (m.fn x.1) fun y=>.when (r.1.length<=(m.out y).2.length) (.leaf (GR (Jr r.1 r.2.2.length) (m.out y).1,iQ r.2.2 r.1 (m.out y).2))))
  | none=>.fail
theorem ZBj {E:Env} (J:Dw U E) {m:HMod U} {as:List (SV U.Ty)} {H:BI U} {r:SV U.Ty×BI U} (h:(Z4w m as H).A7 r):PW m.spec (BB U as) (BP U H)=some (AY U r.1,BP U r.2):=by
 simp only[Z4w,Eg]at h;obtain⟨p,hp,h⟩:=h;have F :=vP hp;split at h
 ·rename_i x M;have key:(∀b∈x.2,b=true)/\∃y,m.fn x.1=some y/\p.1.length<=(m.out y).2.length/\r=(GR (Jr p.1 p.2.2.length) (m.out y).1,iQ p.2.2 p.1 (m.out y).2):=by
   split at h
   ·rename_i A;simp only[Tr.A7,Es]at h;obtain⟨y,q,z,C⟩:=h;exact⟨by rw[A];intro b hb;simp at hb,y,q,z,C.symm⟩
   ·rename_i c cs D;simp only[Tr.A7,Es]at h;obtain⟨hc,y,q,z,C⟩:=h;exact⟨by rw[D];exact ZeT hc,y,q,z,C.symm⟩
  obtain⟨hb,y,q,z,rfl⟩:=key;obtain⟨G,I⟩:=Shape.xP J M hb;rw[QN]at G;rw[uI]at I;unfold PW;simp only[show m.spec.fa=m.fa from rfl,show m.spec.fb=m.fb from rfl,F,G,I,HMod.ZDH J,q,Option.map_some,UY];rw[if_pos z,vZ,Ztn]
 ·simp[Tr.A7]at h
end
end Go.Proofs.YtjodhcdmhobmoaaGreatDoor.Le
namespace Go.Proofs.YtjodhcdmhobmoaaGreatDoor.Le
open Go.RowKit (Below)
section
variable {U:DI}
def Fa (U:DI):List Nat->Type
 | []=>Unit
 | t::ts=>U.Ty t×Fa U ts
def Hz:(ts:List Nat)->Fa U ts->List V
 | [],_=>[]
 | t::ts,x=>U.enc t x.1::Hz ts x.2
def Ua:(ts:List Nat)->List (SV U.Ty)->Option (Fa U ts)
 | [],[]=>some ()
 | t::ts,v::vs=>match U.IP t v,Ua ts vs with|some a,some as=>some (a,as)|_,_=>none
 | _,_=>none
structure Ai (U:DI) where
 ts:List Nat
 rt:Nat
 fn:Fa U ts->Option (U.Ty rt)
 ok:∀t∈ts,t∈U.keys
def jO:SV U.Ty->Bool
 | .ptr _ _ _ _=>true
 | .raw v=>Ur v
 | _=>false
def Z4x (H:BI U):SV U.Ty->Tr U (SV U.Ty)
 | .ptr id i off tot=>if i=0/\off=0/\tot=1 then (match H[id]? with
   | some (.var _ n (.agg cs))=>.leaf (.raw (.CX n [.agg ((BB U cs).map X4)] 0 0))
   | some (.var _ n x)=>(match Xd x with|some z=>.leaf (.raw (.CX n [.lit z] 0 0))|none=>.fail)
   | _=>.fail) else .fail
 | .raw _=>.fail
 | v=>Su H v
def iJ (H:BI U):List (SV U.Ty)->Tr U (List (SV U.Ty))
 | []=>.leaf []
 | v::vs=>(Z4x H v).andThen fun w=>(iJ H vs).andThen fun ws=>.leaf (w::ws)
def xI:SV U.Ty->Bool
 | .lit _ | .si _ _ | .sb _ | .ss _=>true
 | _=>false
def XH:SV U.Ty->Bool
 | .lit _ | .si _ _ | .sb _ | .ss _=>true
 | .agg cs=>cs.all xI
 | _=>false
def Z54:SV U.Ty->Bool
 | .BK vs=>vs.all XH
 | v=>XH v
theorem ZBB (x:SV U.Ty):Ur (AY U x)=jO x:=by
 cases x<;>simp[jO,Ur,AY]
theorem Zeb (xs:List (SV U.Ty)):(BB U xs).any Ur=xs.any jO:=by
 induction xs with
 | nil=>rfl
 | cons x xs q=>simp only[BB,List.any_cons,q,ZBB]
theorem ZBH (x:SV U.Ty) (h:xI x=true):JM (AY U x)=true:=by
 cases x<;>simp_all [xI,JM,AY]
theorem ZdT (xs:List (SV U.Ty)) (h:xs.all xI=true):(BB U xs).all JM=true:=by
 induction xs with
 | nil=>rfl
 | cons x xs q=>
  simp only[List.all_cons,Bool.and_eq_true]at h;simp only[BB,List.all_cons,Bool.and_eq_true];exact⟨ZBH x h.1,q h.2⟩
theorem ZBf (x:SV U.Ty) (h:XH x=true):KW (AY U x)=true:=by
 cases x<;>first|(simp[XH]at h;done)|(simp[KW,AY];done)|skip
 rename_i cs;simp only[AY,KW];exact ZdT cs h
theorem ZzN (xs:List (SV U.Ty)) (h:xs.all XH=true):(BB U xs).all KW=true:=by
 induction xs with
 | nil=>rfl
 | cons x xs q=>
  simp only[List.all_cons,Bool.and_eq_true]at h;simp only[BB,List.all_cons,Bool.and_eq_true];exact⟨ZBf x h.1,q h.2⟩
theorem ZDB (x:SV U.Ty) (h:Z54 x=true):PL (AY U x)=true:=by
 cases x<;>first|(simp[Z54,XH]at h;done)|(simp[PL,KW,AY];done)|skip
 ·rename_i cs;simp only[AY,PL,KW];exact ZdT cs h
 ·rename_i vs;simp only[AY,PL];exact ZzN vs h
theorem ZBS {H:BI U} {x y:SV U.Ty} (h:(Z4x H x).A7 y):PN (BP U H) (AY U x)=some (AY U y):=by
 unfold Z4x at h;split at h
 ·rename_i id i off tot;split at h
  ·rename_i hz;obtain⟨rfl,rfl,rfl⟩:=hz;split at h
   ·rename_i e n cs hb;simp only[Tr.A7]at h;subst h;simp only[AY,PN,and_self,if_true,Dt,NH,hb,Option.map_some,DK,CJ];simp
   ·rename_i e n x hb C;split at h
    ·rename_i z hz;simp only[Tr.A7]at h;subst h;have F:AY U x = .lit z:=by cases x<;>simp_all [Xd,AY]
     simp only[AY,PN,and_self,if_true,Dt,NH,C,Option.map_some,DK,CJ,F];simp
    ·simp[Tr.A7]at h
   ·simp[Tr.A7]at h
  ·simp[Tr.A7]at h
 ·simp[Tr.A7]at h
 ·rename_i q A;unfold PN;split
  ·rename_i id i off tot D;exfalso;cases x<;>simp[AY]at D
   ·exact q _ _ _ _ rfl
   ·exact A _ rfl
  ·exact wE h
theorem Zvq {H:BI U}:∀{xs ys:List (SV U.Ty)},(iJ H xs).A7 ys->Lj (BP U H) (BB U xs)=some (BB U ys):=by
 intro xs;induction xs with
 | nil=>intro ys h;simp only[iJ,Tr.A7]at h;subst h;rfl
 | cons x xs A=>
  intro ys h;simp only[iJ,Eg,Tr.A7]at h;obtain⟨w,q,ws,z,rfl⟩:=h;simp only[BB,Lj,ZBS q,A z]
def Z4Q (hmods:FuncId->List FuncId->Option (HMod U)) (g:FuncId):Bool:=match hmods g [] with|some m=>m.fb.isEmpty|none=>false
def Qj (mods:FuncId->Option (Ai U)) (hmods:FuncId->List FuncId->Option (HMod U)) (mk:FuncId->Option (List (Int×FuncId))):Ip U:=fun g as H=>
 match mk g with
 | some l=>(match as with|[x]=>.when ((NZ x).isEmpty=true) (.leaf (.O3 (l.flatMap fun q=>[.lit (.int .i64 q.1),.fn q.2 [x] []]),H))|_=>.fail)
 | none=>
 match mods g with
 | some m=>if as.any jO then (iJ H as).andThen fun z =>(match Ua m.ts z with
   | some x=>.bind m.rt (m.fn x) fun r=>.when (Z54 (U.encS m.rt r)=true/\(as.flatMap NZ).isEmpty=true) (.leaf (U.encS m.rt r,H))
   | none=>.fail)
  else (QV H as).andThen fun z =>(match Ua m.ts z with
  | some x=>.bind m.rt (m.fn x) fun r=>.leaf (U.encS m.rt r,Qi H (as.flatMap NZ))
  | none=>.fail)
 | none=>match hmods g (if Z4Q hmods g then [] else XN as) with
  | some m=>Z4w m as H
  | none=>.fail
noncomputable def Xk (hmods:FuncId->List FuncId->Option (HMod U)):FuncId->List FuncId->Option XR:=fun g k=>(hmods g k).map HMod.spec
open Classical in
noncomputable def PU (mods:FuncId->Option (Ai U)):FuncId->Option (List V->Option V):=fun g=>
 match mods g with
 | some m=>some fun as=>if h:∃x:Fa U m.ts,Hz m.ts x=as then (m.fn (Classical.choose h)).map (U.enc m.rt) else none
 | none=>none
theorem Zer {E:Env} (A:Dw U E):∀{ts:List Nat} {vs:List (SV U.Ty)} {x:Fa U ts},Ua ts vs=some x->Gy E.rows ts (BB U vs)=Hz ts x:=by
 intro ts;induction ts with
 | nil=>
  intro vs x h;cases vs with
  | nil=>rfl
  | cons=>simp[Ua]at h
 | cons t ts C=>
  intro vs x h;cases vs with
  | nil=>simp[Ua]at h
  | cons v vs=>
   simp only[Ua]at h;split at h
   ·rename_i a as q z;cases h;simp only[BB,Gy,Hz,A.dec _ _ _ q,C z]
   ·cases h
theorem Zxa {E:Env} (z:Dw U E):∀{ts:List Nat} {x y:Fa U ts},(∀t∈ts,t∈U.keys)->Hz ts x=Hz ts y->x=y:=by
 intro ts;induction ts with
 | nil=>intro x y _ _;rfl
 | cons t ts A=>
  intro x y hk h;obtain⟨x1,D⟩:=x;obtain⟨F,G⟩:=y;simp only[Hz,List.cons.injEq]at h;rw[z.inj t (hk t (by simp)) _ _ h.1,A (fun C q =>hk C (by simp[q])) h.2]
theorem Z3H {E:Env} (z:Dw U E) {mods:FuncId->Option (Ai U)} {g:FuncId} {m:Ai U} (hm:mods g=some m) {F:List V->Option V} (q:PU mods g=some F) (x:Fa U m.ts):F (Hz m.ts x)=(m.fn x).map (U.enc m.rt):=by
 unfold PU at q;simp only[hm,Option.some.injEq]at q;subst q;have h:∃y:Fa U m.ts,Hz m.ts y=Hz m.ts x:=⟨x,rfl⟩;simp only[dif_pos h];rw[Zxa z m.ok (Classical.choose_spec h)]
theorem ZCS {E:Env} (C:Dw U E) {mods:FuncId->Option (Ai U)} {hmods:FuncId->List FuncId->Option (HMod U)} (q:E.env=PU mods) (N:E.hm=Xk hmods) (S:∀g,E.pure g=false) (I:∀g m,mods g=some m->E.par g=m.ts)
  (G:∀g,E.own g=none) (n:Nat):OT U (Qj mods hmods E.maps) (FI E (n+1)):=by
 intro g as H v H' h;unfold Qj at h;cases z:E.maps g with
 | some l=>
  simp only[z]at h;split at h
  ·simp only[Es,Tr.A7,Prod.mk.injEq]at h;obtain⟨hi,rfl,rfl⟩:=h;unfold FI;simp only[z,BB,Z3L];rw[if_pos hi];simp only[AY,FU,mkV,List.map_flatMap,List.map_cons,List.map_nil]
  ·cases h
 | none=>
 simp only[z]at h;cases hm:mods g with
 | none=>
  simp only[hm]at h;have Q:E.env g=none:=by rw[q];unfold PU;simp[hm]
  split at h
  ·rename_i m hmm;have:=ZBj C h;unfold FI;simp only[z,Q,S g,Bool.false_eq_true,if_false];have hfr:Qk E g=Z4Q hmods g:=by
    unfold Qk Z4Q;rw[z,Q,S g,N];simp only[Xk];cases hmods g []<;>rfl
   have hk:E.hm g (if Qk E g then [] else N8 (BB U as))=some m.spec:=by rw[hfr,N,ZyG];simp only[Xk,hmm,Option.map_some]
   simp only[hk,this]
  ·simp[Tr.A7]at h
 | some m=>
  simp only[hm]at h
  by_cases hq:as.any jO=true
  ·rw[if_pos hq]at h;simp only[Eg]at h;obtain⟨as',Y,h⟩:=h;split at h
   ·rename_i x hx;simp only[Tr.A7,Es,Prod.mk.injEq]at h;obtain⟨r,hr,⟨hfl,O⟩,rfl,rfl⟩:=h;have A:∃F,E.env g=some F:=by rw[q];unfold PU;simp[hm]
    obtain⟨F,A⟩:=A;have J:=Z3H C hm (by rw[<- q];exact A) x;have D :=ZDB _ hfl;rw[C.encS]at D;have M : (BB U as).flatMap EH=[]:=by rw[Z2X];simpa using O
    unfold FI;simp only[z,A];rw[if_pos (by rw[Zeb];exact hq),Zvq Y];simp only[G g,I g m hm,Zer C hx,J,hr,Option.map_some];rw[if_pos D,M,C.encS];rfl
   ·simp[Tr.A7]at h
  rw[if_neg hq]at h;simp only[Eg]at h;obtain⟨as',Y,h⟩:=h;split at h
  ·rename_i x hx;simp only[Tr.A7,Prod.mk.injEq]at h;obtain⟨r,hr,rfl,rfl⟩:=h;have A:∃F,E.env g=some F:=by rw[q];unfold PU;simp[hm]
   obtain⟨F,A⟩:=A;have J:=Z3H C hm (by rw[<- q];exact A) x;unfold FI;simp only[z,A];rw[if_neg (by rw[Zeb];exact hq)];simp only[Z2o Y,G g,I g m hm,Zer C hx,J,hr,Option.map_some,Z2X,Wu H _ (ZbV Y),C.encS]
  ·simp[Tr.A7]at h
structure Ah (P:Program) (E:Env) (g:FuncId) (m:Ai U):Prop where
 entered:NJ P g
 pure:∀x a,m.fn x=some a->PD P E g (Hz m.ts x) (U.enc m.rt a)
theorem Ah.FM {P:Program} {E q : Env} (h:q.FM=E.FM) {g:FuncId} {m:Ai U} (hf:Ah P E g m):Ah P q g m:=by
 refine⟨hf.entered,fun x a D fz w vs hc z C=>hf.pure x a D fz w vs hc ?_ C⟩;intro g r A;exact z g r (by rw[h];exact A)
structure Cf (P:Program) (E:Env) (g:FuncId) (m:HMod U):Prop where
 entered:NJ P g
 heap:∀x y,m.fn x=some y->Uf P E g (BB U (m.Dv.enc x).1) (BP U (m.Dv.enc x).2) (AY U (m.out y).1) (BP U (m.out y).2)
theorem Cf.FM {P:Program} {E q : Env} (h:q.FM=E.FM) {g:FuncId} {m:HMod U} (hf:Cf P E g m):Cf P q g m:=by
 refine⟨hf.entered,fun x y F B w0 σ w vs C z D=>hf.heap x y F B w0 σ w vs C ?_ D⟩;intro g r A;exact z g r (by rw[h];exact A)
theorem Zfn {P:Program} {E:Env} (hU:Dw U E) {mods:FuncId->Option (Ai U)} {hmods:FuncId->List FuncId->Option (HMod U)} (z:E.env=PU mods) (O:E.hm=Xk hmods) (J:∀g,E.own g=none) (h:∀g m,mods g=some m->Ah P E g m)
  (h' : ∀g k m,hmods g k=some m->Cf P E g m) (mk:Q8 P) (Q:E.maps=mk.tab):SG P E:=by
 refine⟨?_,fun g k hs N=>?_,fun g l hl=>(by
  obtain⟨a,b⟩:=mk.ok g l (by rw[<- Q];exact hl);exact⟨a,b E⟩)⟩
 rotate_left
 ·rw[O]at N;simp only[Xk,Option.map_eq_some_iff]at N;obtain⟨m,hm,rfl⟩:=N;refine⟨(h' g k m hm).entered,fun as H0 r H1 q=>?_⟩;simp only[HMod.spec]at q;split at q
  ·rename_i S;obtain⟨x,rfl,rfl⟩:=S;simp only[Option.map_eq_some_iff]at q;obtain⟨y,hy,he⟩:=q;simp only[Prod.mk.injEq]at he;obtain⟨rfl,rfl⟩:=he;generalize hch:(⟨x,rfl,rfl⟩:∃y:m.Dv.X U,BB U (m.Dv.enc y).1=BB U (m.Dv.enc x).1/\BP U (m.Dv.enc y).2=BP U (m.Dv.enc x).2)=I at hy;have hxe:=Shape.Zht hU m.ok (Classical.choose_spec I).1 (Classical.choose_spec I).2;rw[hxe]at hy;exact(h' g k m hm).heap x y hy
  ·cases q
 intro g F A;have hm:∃m,mods g=some m:=by
  rw[z]at A;unfold PU at A;cases hm:mods g with
  | none=>simp[hm]at A
  | some m=>exact⟨m,rfl⟩
 obtain⟨m,hm⟩:=hm;refine⟨(h g m hm).entered,fun as r _ M=>?_⟩;rw[J g];have G :=A;rw[z]at A;unfold PU at A;simp only[hm,Option.some.injEq]at A;subst A;simp only at M;split at M
 ·rename_i S;obtain⟨x,Y⟩:=S;subst Y;have:=Z3H hU hm (by rw[z]at G;exact G) x;have D : (m.fn x).map (U.enc m.rt)=some r:=by
   rw[<- this];simp only[dif_pos (⟨x,rfl⟩:∃y:Fa U m.ts,Hz m.ts y=Hz m.ts x)];exact M
  cases C:m.fn x with
  | none=>simp[C]at D
  | some a=>
   simp only[C,Option.map_some,Option.some.injEq]at D;subst D;exact(h g m hm).pure x a C
 ·cases M
theorem ZtL {P:Program} {E:Env} (I:DV E) (O:E.P=P) (hF:SG P E) {n:Nat} {f:FuncId} {fn:Func} (M:E.func f=some fn) {c:Code} (hb:fn.body=some c) {as:List V} {r:V} {H1:Heap}
  (h:Dn (FI E n) E f fn 0 (Zp E fn) (.run c) [] ⟨as++List.replicate (fn.ntmps - as.length) Ef,[]⟩ (r,H1)):NJ P f/\PD P E f as r:=by
 obtain⟨C,hf2⟩:=I.func f fn M;rw[O]at C;refine⟨⟨fn,C,by simp[hb],hf2⟩,?_⟩;intro fz w vs q hg Q;have hI:Inv w.heap.size (Start.of w fz) (bare fz) [] w:=⟨Below.refl _ w,Nat.le_refl _,fun id L hL=>(by cases hL),fun id bx hb=>by simp at hb,fun i j b1 b2 L1 L2 g G=>by simp at G,q,
  fun b c hc id bx L hb=>by simp at hb,fun id bx hb=>by simp at hb,fun b c hc _=>hc,fun b hb=>hb.elim⟩
 have z:AV (bare fz) w (as++List.replicate (fn.ntmps - as.length) Ef) (vs.toArray++Array.replicate (fn.ntmps - vs.toArray.size) undef).toList:=by
  simp only[Array.toList_append,Array.toList_replicate,List.size_toArray];rw[<- Q.length];exact Q.append (AV.replicate _ (.no .nil))
 have N:F5 E w.heap.size (Start.of w fz) (bare fz) ⟨as++List.replicate (fn.ntmps - as.length) Ef,[]⟩ { tmps:=vs.toArray++Array.replicate (fn.ntmps - vs.toArray.size) undef,defers:=[] } w:=⟨hI,hg,z,rfl⟩;have hwp:=Zhj I O (Z3J I O hF n w.heap.size (Start.of w fz)) (Vz n) (F:=Fin P fn w.heap.size (Start.of w fz)) (σ0:=bare fz) (ws:=w)
  (fun st r σ a w' hz Q hx=>ZGe I O Q (fun b c hh=>(hx.fz b c hh).1) hz) h (I.calm f fn c M hb) rfl _ _ _ N (Ext.refl _ _).k
 refine calls_of_wp C hb ?_;intro fr k cs;obtain⟨e,a',w',D,J⟩:=hwp fr k cs;refine⟨e,a',w',?_,J⟩;cases e with
 | normal=>
  obtain⟨S,u,A,G,Y,h3,h4,h5,h6,h7⟩:=D;exact⟨S,u,G,u,A,rfl,Y,h3,h4,h5,h6,h7⟩
 | ret=>
  obtain⟨S,u,A,G,Y,h3,h4,h5,h6,h7⟩:=D;exact⟨S,u,G,u,A,rfl,Y,h3,h4,h5,h6,h7⟩
 | exit id=>exact D.elim
 | goto l=>exact D.elim
 | panic c=>exact D.elim
 | outgrown=>exact D.elim
theorem Zt0 {P:Program} {E:Env} (C:DV E) (M:E.P=P) (hF:SG P E) {n:Nat} {f:FuncId} {fn:Func} (G:E.func f=some fn) {c:Code} (hb:fn.body=some c) {as:List V} {J:Heap} {r:V} {H1:Heap} {fa:List (List Fk)} {fb:List Bf} {k:Nat} (hk:J.length=k)
  (h:Dn (FI E n) E f fn k (Zh E fn fa fb k) (.run c) [] ⟨as++List.replicate (fn.ntmps - as.length) Ef,J⟩ (r,H1)):NJ P f/\Uf P E f as J r H1:=by
 obtain⟨z,hf2⟩:=C.func f fn G;rw[M]at z;refine⟨⟨fn,z,by simp[hb],hf2⟩,?_⟩;intro B w0 σ w vs hI hg N;have q:AV σ w (as++List.replicate (fn.ntmps - as.length) Ef) (vs.toArray++Array.replicate (fn.ntmps - vs.toArray.size) undef).toList:=by
  simp only[Array.toList_append,Array.toList_replicate,List.size_toArray];rw[<- N.length];exact N.append (AV.replicate _ (.no .nil))
 have I:F5 E B w0 σ ⟨as++List.replicate (fn.ntmps - as.length) Ef,J⟩ { tmps:=vs.toArray++Array.replicate (fn.ntmps - vs.toArray.size) undef,defers:=[] } w:=⟨hI,hg,q,rfl⟩;have hwp:=Zhj C M (Z3J C M hF n B w0) (Vz n) (F:=FinH P fn B w0 σ w) (σ0:=σ) (ws:=w)
  (fun st r σ' a w' hz N hx=>ZFt C M (fun id L hL=>by rw[<- hk];exact hI.Z4C hL) N hx hz) h (C.calm f fn c G hb) rfl _ _ _ I (Ext.refl _ _).k
 refine calls_of_wp z hb ?_;intro fr k cs;obtain⟨e,a',w',A,D⟩:=hwp fr k cs;refine⟨e,a',w',?_,D⟩;cases e with
 | normal=>
  obtain⟨O,u,σ',Q,S,Y,h4⟩:=A;exact⟨O,u,Q,u,σ',rfl,S,Y,h4⟩
 | ret=>
  obtain⟨O,u,σ',Q,S,Y,h4⟩:=A;exact⟨O,u,Q,u,σ',rfl,S,Y,h4⟩
 | exit id=>exact A.elim
 | goto l=>exact A.elim
 | panic c=>exact A.elim
 | outgrown=>exact A.elim
theorem Zgn {L R:Type} {J:L->Option R}:∀{T:Tr U L} {r:R},T.den J=some r->∃l,T.A7 l/\J l=some r:=by
 intro T;induction T with
 | leaf l=>intro r h;exact⟨l,rfl,h⟩
 | br c a b C D=>
  intro r h;cases c with
  | true=>obtain⟨l,q,z⟩:=C h;exact⟨l,.inl ⟨rfl,q⟩,z⟩
  | false=>obtain⟨l,q,z⟩:=D h;exact⟨l,.inr ⟨rfl,q⟩,z⟩
 | bind t o k A=>
  intro r h;cases o with
  | none=>cases h
  | some a=>obtain⟨l,q,z⟩:=A a h;exact⟨l,⟨a,rfl,q⟩,z⟩
 | chk c a A=>
  intro r h;cases c with
  | true=>obtain⟨l,q,z⟩:=A h;exact⟨l,⟨rfl,q⟩,z⟩
  | false=>cases h
 | fail=>intro r h;cases h
theorem ZDf {L M:Type} {g:L->M}:∀{T:Tr U L} {l:L},T.A7 l->(T.map g).A7 (g l):=by
 intro T;induction T with
 | leaf l=>intro l h;simp only[Tr.A7]at h;subst h;rfl
 | br c a b z A=>
  intro l h;rcases h with ⟨hc,h⟩|⟨hc,h⟩
  ·exact .inl ⟨hc,z h⟩
  ·exact .inr ⟨hc,A h⟩
 | bind t o k q=>rintro l ⟨a,C,h⟩;exact⟨a,C,q a h⟩
 | chk c a q=>rintro l ⟨hc,h⟩;exact⟨hc,q h⟩
 | fail=>intro l h;exact h
def Qv:Code->List Nat->List Fr->Code×List Fr
 | .seq a b,0::p,K=>Qv a p (.seq b::K)
 | .seq a b,_::p,K=>Qv b p K
 | .cond _ a b,0::p,K=>Qv a p K
 | .cond _ a b,_::p,K=>Qv b p K
 | .block id b,_::p,K=>Qv b p (.blk id::K)
 | .loop b,_::p,K=>Qv b p (.loop b::K)
 | .scope b,_::p,K=>Qv b p K
 | c,_,K=>(c,K)
def Ig (fn:Func):Code:=match fn.body with|some c=>c|none=>.skip
open Classical in
noncomputable def kM {α:Type} (g:Nat->Option α):Option α:=if h:∃n a,g n=some a then g (Classical.choose h) else none
theorem Z33 {α:Type} {g:Nat->Option α} {a:α} (h:kM g=some a):∃n,g n=some a:=by
 unfold kM at h;split at h
 ·exact⟨_,h⟩
 ·cases h
def Mono {α:Type} (g:Nat->Option α):Prop:=∀n a,g n=some a->g (n+1)=some a
theorem Mono.le {α:Type} {g:Nat->Option α} (z:Mono g) {n m:Nat} {a:α} (h:g n=some a) (q:n<=m):g m=some a:=by
 induction q with
 | refl=>exact h
 | step _ A=>exact z _ _ A
theorem ZFk {α:Type} {g:Nat->Option α} (A:Mono g) {n:Nat} {a:α} (h:g n=some a):kM g=some a:=by
 unfold kM;have q:∃n a,g n=some a:=⟨n,a,h⟩;rw[dif_pos q];obtain⟨b,hb⟩:=Classical.choose_spec q;have C:=A.le h (Nat.le_max_left n (Classical.choose q));have z:=A.le hb (Nat.le_max_right n (Classical.choose q));rw[hb];rw[C]at z;exact z.symm
end
abbrev AQ (x:Int):Int:=IntKind.wrap .i64 x
end Go.Proofs.YtjodhcdmhobmoaaGreatDoor.Le
namespace Go.Proofs.YtjodhcdmhobmoaaGreatDoor.Le
structure AL (Ty:Nat->Type) (T:Type) where
 BJ:T->List V
 encS:T->List (SV Ty)
 dec:List (SV Ty)->Option (T×List (SV Ty))
section
variable {Ty:Nat->Type}
def AL.int (k:IntKind):AL Ty Int where
 BJ:=fun a=>[.lit (.int k a)]
 encS:=fun a=>[.si k a]
 dec:=fun cs=>match cs with
  | .si j a::r=>if j=k then some (a,r) else none
  | .lit (.int j a)::r=>if j=k then some (a,r) else none
  | _=>none
def AL.bool:AL Ty Bool where
 BJ:=fun b=>[.lit (.bool b)]
 encS:=fun b=>[.sb b]
 dec:=fun cs=>match cs with
  | .sb b::r=>some (b,r)
  | .lit (.bool b)::r=>some (b,r)
  | _=>none
def AL.str:AL Ty ByteArray where
 BJ:=fun b=>[.lit (.string b)]
 encS:=fun b=>[.ss b]
 dec:=fun cs=>match cs with
  | .ss b::r=>some (b,r)
  | .lit (.string b)::r=>some (b,r)
  | _=>none
def AL.list (t n:Nat) (e:Ty t->V):AL Ty (List (Ty t)) where
 BJ:=fun xs=>[.sl false n (xs.map e)]
 encS:=fun xs=>[.sl t xs]
 dec:=fun cs=>match cs with
  | .sl q xs::r=>if h:q = t then some (h▸xs,r) else none
  | .nil _::r=>some ([],r)
  | _=>none
def AL.unit:AL Ty Unit where
 BJ:=fun _=>[]
 encS:=fun _=>[]
 dec:=fun cs=>some ((),cs)
def AL.pair {A B:Type} (a:AL Ty A) (b:AL Ty B):AL Ty (A×B) where
 BJ:=fun x=>a.BJ x.1++b.BJ x.2
 encS:=fun x=>a.encS x.1++b.encS x.2
 dec:=fun cs=>match a.dec cs with
  | some (x,r)=>match b.dec r with|some (y,q)=>some ((x,y),q)|none=>none
  | none=>none
def AL.DC {A B:Type} (f:A->B) (g:B->A) (b:AL Ty B):AL Ty A where
 BJ:=fun x=>b.BJ (f x)
 encS:=fun x=>b.encS (f x)
 dec:=fun cs=>match b.dec cs with|some (y,r)=>some (g y,r)|none=>none
def AL.agg {T:Type} (c:AL Ty T) (v:SV Ty):Option T:=match v with
 | .agg cs=>match c.dec cs with|some (a,[])=>some a|_=>none
 | _=>none
def AL.one {T:Type} (c:AL Ty T) (v:SV Ty):Option T:=match c.dec [v] with|some (a,[])=>some a|_=>none
def AL.Bc {T:Type} (c:AL Ty T) (a:T):V:=(c.BJ a).headD .no
def AL.D8 {T:Type} (c:AL Ty T) (a:T):SV Ty:=(c.encS a).headD .no
end
structure Aa (U:DI) {T:Type} (c:AL U.Ty T) (rs:List Nat):Prop where
 enc:∀a,BB U (c.encS a)=c.BJ a
 len:∀a,(c.BJ a).length=rs.length
 dec:∀cs a rest,c.dec cs=some (a,rest)->∃pre,cs=pre++rest/\pre.length=rs.length/\Gp rs (BB U pre)=c.BJ a
 nr:∀a,CY (c.BJ a)=true
 inj:∀a b,c.BJ a=c.BJ b->a=b
section
variable {U:DI}
theorem Aa.int (k:IntKind):Aa U (AL.int k:AL U.Ty Int) [0]:=by
 refine⟨fun a=>rfl,fun a=>rfl,?_,fun a=>rfl,fun a b h=>by simpa[AL.int]using h⟩;intro cs a z h;simp only[AL.int]at h;split at h
 ·rename_i j x r;split at h
  ·rename_i q;simp only[Option.some.injEq,Prod.mk.injEq]at h;obtain⟨rfl,rfl⟩:=h;subst q;exact⟨[_],rfl,rfl,rfl⟩
  ·cases h
 ·rename_i j x r;split at h
  ·rename_i q;simp only[Option.some.injEq,Prod.mk.injEq]at h;obtain⟨rfl,rfl⟩:=h;subst q;exact⟨[_],rfl,rfl,rfl⟩
  ·cases h
 ·cases h
theorem Aa.bool:Aa U (AL.bool:AL U.Ty Bool) [0]:=by
 refine⟨fun a=>rfl,fun a=>rfl,?_,fun a=>rfl,fun a b h=>by simpa[AL.bool]using h⟩;intro cs a q h;simp only[AL.bool]at h;split at h<;>cases h<;>exact⟨[_],rfl,rfl,rfl⟩
theorem Aa.str:Aa U (AL.str:AL U.Ty ByteArray) [0]:=by
 refine⟨fun a=>rfl,fun a=>rfl,?_,fun a=>rfl,fun a b h=>by simpa[AL.str]using h⟩;intro cs a q h;simp only[AL.str]at h;split at h<;>cases h<;>exact⟨[_],rfl,rfl,rfl⟩
theorem ZGb {α q:Type} {f:α->q} (hf:∀a b,f a=f b->a=b):∀{xs ys:List α},xs.map f=ys.map f->xs=ys:=by
 intro xs;induction xs with
 | nil=>simp_all
 | cons x xs z=>intro ys h;cases ys with
  | nil=>simp at h
  | cons y ys=>
   grind
theorem Aa.list {t n:Nat} {e:U.Ty t->V} (D:∀a,U.enc t a=e a) (A:U.BA t=n) (F:∀a,DF (e a)=true) (z:∀a b,e a=e b->a=b):Aa U (AL.list t n e:AL U.Ty (List (U.Ty t))) [n]:=by
 have q:∀xs:List (U.Ty t),xs.map (U.enc t)=xs.map e:=fun xs=>List.map_congr_left fun a _=>D a;refine⟨fun a=>?_,fun a=>rfl,?_,fun a=>?_,fun a b h=>?_⟩
 ·simp[AL.list,BB,AY,A,q]
 ·intro cs a C h;simp only[AL.list]at h;split at h
  ·rename_i I xs r;split at h
   ·rename_i G;subst G;simp only[Option.some.injEq,Prod.mk.injEq]at h;obtain⟨rfl,rfl⟩:=h;exact⟨[_],rfl,rfl,by simp[BB,AY,Gp,Gz,AL.list,A,q]⟩
   ·cases h
  ·cases h;exact⟨[_],rfl,rfl,by simp[BB,AY,Gp,Gz,AL.list]⟩
  ·cases h
 ·simp only[AL.list,CY,DF,Bool.and_true];rw[LX]
  simp_all
 ·simp only[AL.list,List.cons.injEq,V.sl.injEq,true_and,and_true]at h;exact ZGb z h
theorem Aa.unit:Aa U (AL.unit:AL U.Ty Unit) []:=
 ⟨fun a=>rfl,fun a=>rfl,fun cs a q h=>by cases h;exact⟨[],rfl,rfl,rfl⟩,fun a=>rfl,fun a b _=>rfl⟩
theorem Zr6:∀(q z:List Nat) (x y:List V),x.length=q.length->Gp (q++z) (x++y)=Gp q x++Gp z y:=by
 intro q;induction q with
 | nil=>intro z x y h;cases x with
  | nil=>simp[Gp]
  | cons=>simp at h
 | cons r q A=>intro z x y h;cases x with
  | nil=>simp at h
  | cons v x=>simp[Gp,A z x y (by simpa using h)]
theorem Zrm (x y:List V):CY (x++y)=(CY x&&CY y):=by
 induction x with
 | nil=>simp[CY]
 | cons a x q=>simp[CY,q,Bool.and_assoc]
theorem Aa.pair {A B:Type} {a:AL U.Ty A} {b:AL U.Ty B} {D F:List Nat} (z:Aa U a D) (hb:Aa U b F):Aa U (AL.pair a b) (D++F):=by
 refine⟨fun x=>?_,fun x=>?_,?_,fun x=>?_,fun x y h=>?_⟩
 ·simp only[AL.pair,Rj,z.enc,hb.enc]
 ·simp only[AL.pair,List.length_append,z.len,hb.len]
 ·intro cs x G h;simp only[AL.pair]at h;split at h
  ·rename_i p r hp;split at h
   ·rename_i q r' M;cases h;obtain⟨O,e1,C,S⟩:=z.dec _ _ _ hp;obtain⟨Q,e2,N,Y⟩:=hb.dec _ _ _ M;refine⟨O++Q,by simp_all,by simp[C,N],?_⟩;rw[Rj,Zr6 _ _ _ _ (by rw[JY];exact C),S,Y];rfl
   ·cases h
  ·cases h
 ·simp only[AL.pair,Zrm,z.nr,hb.nr,Bool.and_self]
 ·simp only[AL.pair]at h;obtain⟨I,J⟩:=List.append_inj h (by rw[z.len,z.len]);obtain⟨x1,x2⟩:=x;obtain⟨y1,y2⟩:=y;exact Prod.ext (z.inj _ _ I) (hb.inj _ _ J)
theorem Aa.DC {A B:Type} {f:A->B} {g:B->A} {b:AL U.Ty B} {r:List Nat} (hb:Aa U b r) (q:∀y,f (g y)=y) (C:∀x,g (f x)=x):Aa U (AL.DC f g b) r:=by
 refine⟨fun x=>hb.enc _,fun x=>hb.len _,?_,fun x=>hb.nr _,fun x y h=>?_⟩
 ·intro cs x z h;simp only[AL.DC]at h;split at h
  ·rename_i y F D;cases h;obtain⟨p,e,l,t⟩:=hb.dec _ _ _ D;exact⟨p,e,l,by simp only[AL.DC,q];exact t⟩
  ·cases h
 ·have:=hb.inj _ _ h
  grind
theorem Aa.agg {T:Type} {c:AL U.Ty T} {r:List Nat} (h:Aa U c r) {v:SV U.Ty} {a:T} (q:c.agg v=some a):EU r (AY U v) = .agg (c.BJ a):=by
 unfold AL.agg at q;split at q
 ·split at q
  ·rename_i cs _ z;cases q;obtain⟨p,e,l,t⟩:=h.dec _ _ _ z;simp only[List.append_nil]at e;subst e;simp only[AY,EU,t]
  ·cases q
 ·cases q
theorem Aa.one {T:Type} {c:AL U.Ty T} {n:Nat} (h:Aa U c [n]) {v:SV U.Ty} {a:T} (q:c.one v=some a) (A:∀cs,AY U v≠.agg cs):EU [n] (AY U v)=c.Bc a:=by
 unfold AL.one at q;split at q
 ·rename_i z;cases q;obtain⟨p,e,l,t⟩:=h.dec _ _ _ z;simp only[List.append_nil]at e;subst e;simp only[BB,Gp]at t;unfold AL.Bc;rw[<- t];unfold EU
  grind
 ·cases q
theorem SH {k:IntKind} {v:SV U.Ty} {a:Int} (h:(AL.int k:AL U.Ty Int).one v=some a):∀cs,AY U v≠.agg cs:=by
 rintro cs hc
 cases v<;>simp_all [AY,AL.one,AL.int]
theorem ZFW {v:SV U.Ty} {a:Bool} (h:(AL.bool:AL U.Ty Bool).one v=some a):∀cs,AY U v≠.agg cs:=by
 rintro cs hc
 cases v<;>simp_all [AY,AL.one,AL.bool]
theorem ZIk {v:SV U.Ty} {a:ByteArray} (h:(AL.str:AL U.Ty ByteArray).one v=some a):∀cs,AY U v≠.agg cs:=by
 rintro cs hc
 cases v<;>simp_all [AY,AL.one,AL.str]
theorem NM {t n:Nat} {e:U.Ty t->V} {v:SV U.Ty} {a:List (U.Ty t)} (h:(AL.list t n e:AL U.Ty (List (U.Ty t))).one v=some a):∀cs,AY U v≠.agg cs:=by
 rintro cs hc
 cases v<;>simp_all [AY,AL.one,AL.list]
theorem Aa.ZhN {T:Type} {c:AL U.Ty T} {n:Nat} (h:Aa U c [n]) (a:T):AY U (c.D8 a)=c.Bc a:=by
 unfold AL.D8 AL.Bc;rw[<- h.enc a];have hl:=h.len a;rw[<- h.enc a,JY]at hl;cases hs:c.encS a with
 | nil=>simp_all
 | cons x xs=>rfl
theorem Aa.Q7 {T:Type} {c:AL U.Ty T} {n:Nat} (h:Aa U c [n]) {a b:T} (q:c.Bc a=c.Bc b):a=b:=by
 refine h.inj a b ?_;have z:=h.len a;have A:=h.len b;unfold AL.Bc at q;cases C:c.BJ a with
 | nil=>simp_all
 | cons x xs=>
  cases hb:c.BJ b with
  | nil=>simp_all
  | cons y ys=>
   simp_all
theorem Aa.Qg {T:Type} {c:AL U.Ty T} {n:Nat} (h:Aa U c [n]) (a:T):DF (c.Bc a)=true:=by
 have:=h.nr a;unfold AL.Bc;cases q:c.BJ a with
 | nil=>rfl
 | cons x xs=>rw[q]at this;simp[CY]at this;exact this.1
end
def AL.skip {Ty:Nat->Type}:AL Ty Unit where
 BJ:=fun _=>[.und]
 encS:=fun _=>[.und]
 dec:=fun cs=>match cs with
  | .und::r=>some ((),r)
  | _=>none
theorem Aa.skip {U:DI}:Aa U (AL.skip:AL U.Ty Unit) [0]:=by
 refine⟨fun a=>rfl,fun a=>rfl,?_,fun a=>rfl,fun a b _=>rfl⟩;intro cs a q h;simp only[AL.skip]at h;split at h<;>cases h;exact⟨[_],rfl,rfl,rfl⟩
def rawS {Ty:Nat->Type}:V->SV Ty
 | .lit v=>.lit v
 | .und=>.und
 | _=>.no
def jZ:V->Bool
 | .lit _=>true
 | .und=>true
 | _=>false
def AL.Lp {Ty:Nat->Type} {T:Type} (c:AL Ty T) (n:Nat) (a:T):V:=.CX n [.agg (c.BJ a)] 0 0
def AL.kT {Ty:Nat->Type} {T:Type} (c:AL Ty T) (n:Nat) (v:SV Ty):Option T:=match v with
 | .raw (.CX m [.agg cs] 0 0)=>if m=n/\cs.all jZ=true then c.agg (.agg (cs.map rawS)) else none
 | _=>none
def AL.OX {Ty:Nat->Type} {T:Type} (c:AL Ty T) (n:Nat) (a:T):V:=.CX n (c.BJ a) 0 0
def AL.yI {Ty:Nat->Type} {T:Type} (c:AL Ty T) (n:Nat) (v:SV Ty):Option T:=match v with
 | .raw (.CX m [.lit z] 0 0)=>if m=n then (match c.dec [.lit z] with|some (a,[])=>some a|_=>none) else none
 | _=>none
theorem Aa.Zgg {U:DI} {T:Type} {c:AL U.Ty T} {r:List Nat} (h:Aa U c r) {n:Nat} {v:SV U.Ty} {a:T} (q:c.yI n v=some a) (rs:List Nat):EU rs (AY U v)=c.OX n a:=by
 unfold AL.yI at q;split at q
 ·rename_i m z;split at q
  ·rename_i hc;subst hc;split at q
   ·rename_i F D;cases q;obtain⟨pre,A,G,C⟩:=h.dec _ _ _ D;rw[List.append_nil]at A;subst A;have:c.BJ a=[V.lit z]:=by
     rw[<- C];cases r with
     | nil=>simp_all
     | cons a b=>cases b<;>simp[BB,AY,Gp,Gz]
    simp only[AY,EU,Gz,AL.OX,this]
   ·cases q
  ·cases q
 ·cases q
theorem Aa.ZgT {U:DI} {T:Type} {c:AL U.Ty T} {r:List Nat} (h:Aa U c r) (n:Nat) (a:T):DF (c.OX n a)=true:=by
 simp[AL.OX,DF,h.nr]
theorem Aa.Zgw {U:DI} {T:Type} {c:AL U.Ty T} {r:List Nat} (h:Aa U c r) {n:Nat} {a b:T} (q:c.OX n a=c.OX n b):a=b:=by
 simp only[AL.OX,V.CX.injEq,and_true,true_and]at q;exact h.inj _ _ q
theorem ZCQ {U:DI}:∀{cs:List V},cs.all jZ=true->BB U (cs.map rawS)=cs:=by
 intro cs;induction cs with
 | nil=>intro _;rfl
 | cons c cs q=>
  intro h;simp only[List.all_cons,Bool.and_eq_true]at h;simp only[List.map_cons,BB,q h.2];cases c<;>simp_all [jZ,rawS,AY]
theorem Zzs:∀{cs:List V},cs.all jZ=true->∀rs,Gp rs cs=cs:=by
 intro cs;induction cs with
 | nil=>intro _ rs;cases rs<;>rfl
 | cons c cs q=>
  intro h rs;simp only[List.all_cons,Bool.and_eq_true]at h;cases rs with
  | nil=>rfl
  | cons r rs=>
   simp only[Gp,q h.2];cases c<;>simp_all [jZ,Gz]
theorem Aa.Z3T {U:DI} {T:Type} {c:AL U.Ty T} {r:List Nat} (h:Aa U c r) {n:Nat} {v:SV U.Ty} {a:T} (z:c.kT n v=some a) (rs:List Nat):EU rs (AY U v)=c.Lp n a:=by
 unfold AL.kT at z;split at z
 ·rename_i m cs;split at z
  ·rename_i hc;obtain⟨rfl,q⟩:=hc;have:=h.agg z;simp only[AY,EU,ZCQ q,V.agg.injEq]at this;rw[Zzs q]at this;simp only[AY,EU,Gz,AL.Lp,this]
  ·cases z
 ·cases z
theorem Aa.Z4v {U:DI} {T:Type} {c:AL U.Ty T} {r:List Nat} (h:Aa U c r) (n:Nat) (a:T):DF (c.Lp n a)=true:=by
 simp[AL.Lp,DF,CY,h.nr]
theorem Aa.Z40 {U:DI} {T:Type} {c:AL U.Ty T} {r:List Nat} (h:Aa U c r) {n:Nat} {a b:T} (q:c.Lp n a=c.Lp n b):a=b:=by
 simp only[AL.Lp,V.CX.injEq,List.cons.injEq,V.agg.injEq,and_true,true_and]at q;exact h.inj _ _ q
noncomputable def O1 {U:DI} (P:Program) (gl:Nat->Option (List V)) (f:FuncId) (mods:FuncId->Option (Ai U)) (hmods:FuncId->List FuncId->Option (HMod U)) (mk:Q8 P):Env:=
 { Om P (fun _=>false) (PU mods) with
  func:=fun g=>if g=f then P.funcs[g]? else none
  FM:=gl
  hm:=Xk hmods
  maps:=mk.tab
  par:=fun g=>match mods g with|some m=>m.ts|none=>[] }
def ZEV (E:Env) (P:Program) (f:FuncId):Bool:=match (P.funcs[f]?).bind (·.body) with|some c=>!Eo E f c|none=>false
noncomputable def EV {U:DI} (P:Program) (gl:Nat->Option (List V)) (f:FuncId) (mods:FuncId->Option (Ai U)) (hmods:FuncId->List FuncId->Option (HMod U)) (mk:Q8 P):Env:=
 { O1 P gl f mods hmods mk with quiet:=ZEV (O1 P gl f mods hmods mk) P f }
section
variable {U:DI} {P:Program} {gl:Nat->Option (List V)} {f:FuncId} {mods:FuncId->Option (Ai U)} {hmods:FuncId->List FuncId->Option (HMod U)} {mk:Q8 P}
theorem Zid (C:P.follows .mixedOrders=true) {fn:Func} {c:Code} (A:P.funcs[f]? = some fn) (z:(fn.name == "runtime.NumGoroutine")=false) (hb:fn.body=some c) (F:Eo (EV P gl f mods hmods mk) f c=true):DV (EV P gl f mods hmods mk):=by
 refine⟨fun t i h=>h,?_,C,?_,?_,?_,?_,fun t ks h=>h,?_⟩
 ·intro g D h;simp only[EV,O1]at h;split at h
  ·rename_i J;subst J;rw[A]at h;cases h;exact⟨A,z⟩
  ·cases h
 ·intro g D M h G;simp only[EV,O1]at h
  simp_all
 ·intro t k h;simp only[EV,O1,Om]at h;split at h
  ·rename_i d q;simp only[Option.some.injEq]at h;subst h;exact q
  ·cases h
 ·intro t h;simp only[EV,O1,Om]at h;split at h
  ·rename_i q;exact q
  ·cases h
 ·intro t h;simp only[EV,O1,Om]at h;split at h
  ·rename_i q;exact q
  ·cases h
 ·intro t h;simp only[EV,O1,Om]at h;split at h
  ·rename_i e I;split at h
   ·rename_i q;exact⟨e,I,q⟩
   ·cases h
  ·cases h
def vX:(ts:List Nat)->Fa U ts->List (SV U.Ty)
 | [],_=>[]
 | t::ts,x=>U.encS t x.1::vX ts x.2
def jK (ts:List Nat) (x:Fa U ts) (n:Nat):Dz U:=⟨vX ts x++List.replicate (n - ts.length) .no,[]⟩
theorem Zur {E:Env} (q:Dw U E):∀{ts:List Nat} (x:Fa U ts),BB U (vX ts x)=Hz ts x:=by
 intro ts;induction ts with
 | nil=>intro x;rfl
 | cons t ts z=>intro x;simp only[vX,BB,Hz,q.encS,z]
theorem Z9X:∀{ts:List Nat} (x:Fa U ts),(Hz ts x).length=ts.length:=by
 intro ts;induction ts with
 | nil=>intro x;rfl
 | cons t ts q=>intro x;simp[Hz,q]
theorem ZA0 {E:Env} (q:Dw U E) {ts:List Nat} (x:Fa U ts) (n:Nat):DL U (jK ts x n)=⟨Hz ts x++List.replicate (n - (Hz ts x).length) Ef,[]⟩:=by
 simp only[DL,jK,Rj,Zur q,Z9X];congr 1;congr 1;rw[FU,List.map_replicate];rfl
theorem fn_ok {E0:Env} (z:E0.FM=gl) (M:Dw U (EV P gl f mods hmods mk)) (G:P.follows .mixedOrders=true) {fn:Func} {c:Code} (I:∀g m,mods g=some m->Ah P E0 g m) (F:∀g k m,hmods g k=some m->Cf P E0 g m) (C:P.funcs[f]? = some fn) (q:(fn.name == "runtime.NumGoroutine")=false)
  (hb:fn.body=some c) (A:Eo (EV P gl f mods hmods mk) f c=true) (m:Ai U)
  (h:∀x a,m.fn x=some a->Dn (FI (EV P gl f mods hmods mk) 1) (EV P gl f mods hmods mk) f fn 0 (Zp (EV P gl f mods hmods mk) fn) (.run c) [] (DL U (jK m.ts x fn.ntmps)) (U.enc m.rt a,[])):Ah P E0 f m:=by
 have N:=Zid (gl:=gl) (mods:=mods) G C q hb A;have O:SG P (EV P gl f mods hmods mk):=Zfn M rfl rfl (fun _=>rfl) (fun g m hm=>(I g m hm).FM (by rw[z];rfl)) (fun g k m hm=>(F g k m hm).FM (by rw[z];rfl)) mk rfl;have D : (EV P gl f mods hmods mk).func f=some fn:=by simp only[EV,O1,if_true];exact C
 have key:∀x a,m.fn x=some a->NJ P f/\PD P (EV P gl f mods hmods mk) f (Hz m.ts x) (U.enc m.rt a):=by
  intro x a J;have:=h x a J;rw[ZA0 M]at this;exact ZtL N rfl O D hb this
 refine⟨⟨fn,C,by simp[hb],q⟩,fun x a J fz w vs hc Q Y=>(key x a J).2 fz w vs hc ?_ Y⟩;intro g r S;exact Q g r (by rw[z];exact S)
def jI (e:List (SV U.Ty)×BI U) (n:Nat):Dz U:=⟨e.1++List.replicate (n - e.1.length) .no,e.2⟩
theorem Zzr (e:List (SV U.Ty)×BI U) (n:Nat):DL U (jI e n)=⟨BB U e.1++List.replicate (n - (BB U e.1).length) Ef,BP U e.2⟩:=by
 simp only[DL,jI,Rj,JY];congr 1;congr 1;rw[FU,List.map_replicate];rfl
theorem ZIs {E0:Env} (z:E0.FM=gl) (O:Dw U (EV P gl f mods hmods mk)) (G:P.follows .mixedOrders=true) {fn:Func} {c:Code} (I:∀g m,mods g=some m->Ah P E0 g m) (F:∀g k m,hmods g k=some m->Cf P E0 g m) (C:P.funcs[f]? = some fn) (q:(fn.name == "runtime.NumGoroutine")=false)
  (hb:fn.body=some c) (A:Eo (EV P gl f mods hmods mk) f c=true) (m:HMod U) {fa:List (List Fk)} {fb:List Bf} {k:Nat} (hk:∀x:m.Dv.X U,(m.Dv.enc x).2.length=k)
  (h:∀(x:m.Dv.X U) (y:U.Ty m.ky),m.fn x=some y->Dn (FI (EV P gl f mods hmods mk) 1) (EV P gl f mods hmods mk) f fn k (Zh (EV P gl f mods hmods mk) fn fa fb k) (.run c) [] (DL U (jI (m.Dv.enc x) fn.ntmps)) (AY U (m.out y).1,BP U (m.out y).2)):Cf P E0 f m:=by
 have M:=Zid (gl:=gl) (mods:=mods) (hmods:=hmods) G C q hb A;have N:SG P (EV P gl f mods hmods mk):=Zfn O rfl rfl (fun _=>rfl) (fun g m hm=>(I g m hm).FM (by rw[z];rfl)) (fun g k m hm=>(F g k m hm).FM (by rw[z];rfl)) mk rfl;have D : (EV P gl f mods hmods mk).func f=some fn:=by simp only[EV,O1,if_true];exact C
 refine⟨⟨fn,C,by simp[hb],q⟩,fun x y hx B w0 σ w vs Y Q hr=>?_⟩;have J:=h x y hx;rw[Zzr]at J;exact(Zt0 M rfl N D hb (by rw[UY];exact hk x) J).2 B w0 σ w vs Y (fun g r S=>Q g r (by rw[z];exact S)) hr
theorem ZhD (q:Dw U (EV P gl f mods hmods mk)):OT U (Qj mods hmods mk.tab) (FI (EV P gl f mods hmods mk) 1):=
 ZCS q rfl rfl (fun _=>rfl) (fun g m h=>by simp only[EV,O1,h]) (fun _=>rfl) 0
end
structure CU (U:DI) (E:Env) (t:Nat):Prop where
 encS:∀a,AY U (U.encS t a)=U.enc t a
 dec:∀v a,U.IP t v=some a->EU (E.rows t) (AY U v)=U.enc t a
 cells:∀a,(U.enc t a).cells=BB U (cellsS (U.encS t a))
 nr:∀a,DF (U.enc t a)=true
 inj:∀a b,U.enc t a=U.enc t b->a=b
def jM (U:DI) (E:Env) {α:Type}:List ((i:Nat)×(α->U.Ty i))->Prop
 | []=>True
 | c::cs=>CU U E c.1/\jM U E cs
def Z4l (U:DI) {α:Type} (x y:α):List ((i:Nat)×(α->U.Ty i))->Prop
 | []=>True
 | c::cs=>c.2 x=c.2 y/\Z4l U x y cs
theorem ZfC {U:DI} {E:Env} {α:Type} (x:α):∀{cs:List ((i:Nat)×(α->U.Ty i))},jM U E cs->BB U (cs.map fun c=>U.encS c.1 (c.2 x))=cs.map fun c=>U.enc c.1 (c.2 x):=by
 intro cs;induction cs with
 | nil=>intro _;rfl
 | cons c cs q=>intro h;simp only[List.map_cons,BB,h.1.encS,q h.2]
theorem ZEK {U:DI} {E:Env} {α:Type} (x:α):∀{cs:List ((i:Nat)×(α->U.Ty i))},jM U E cs->CY (cs.map fun c=>U.enc c.1 (c.2 x))=true:=by
 intro cs;induction cs with
 | nil=>intro _;rfl
 | cons c cs q=>intro h;simp only[List.map_cons,CY,h.1.nr,q h.2,Bool.and_self]
theorem ZDr {U:DI} {E:Env} {α:Type} (x y:α):∀{cs:List ((i:Nat)×(α->U.Ty i))},jM U E cs->(cs.map fun c=>U.enc c.1 (c.2 x))=(cs.map fun c=>U.enc c.1 (c.2 y))->Z4l U x y cs:=by
 intro cs;induction cs with
 | nil=>intro _ _;trivial
 | cons c cs q=>intro h e;simp only[List.map_cons,List.cons.injEq]at e;exact⟨h.1.inj _ _ e.1,q h.2 e.2⟩
theorem CU.BK {U:DI} {E:Env} {t:Nat} (cs:List ((i:Nat)×(U.Ty t->U.Ty i))) (h:jM U E cs) (q:∀x,U.enc t x = .BK (cs.map fun c=>U.enc c.1 (c.2 x))) (z:∀x,U.encS t x = .BK (cs.map fun c=>U.encS c.1 (c.2 x))) (A:∀v,U.IP t v=none)
  (C:∀x y,Z4l U x y cs->x=y):CU U E t:=by
 refine⟨fun a=>?_,fun v a e=>?_,fun a=>?_,fun a=>?_,fun a b e=>?_⟩
 ·rw[q,z,AY,ZfC a h]
 ·rw[A]at e;cases e
 ·rw[q,z];show [V.BK _]=[V.BK _];rw[ZfC a h]
 ·rw[q];exact ZEK a h
 ·rw[q,q]at e;exact C a b (ZDr a b h (V.BK.inj e))
theorem CU.IK {U:DI} {E:Env} {t:Nat} {c:AL U.Ty (U.Ty t)} {rs:List Nat} (hc:Aa U c rs) (C:E.rows t=rs) (q:∀a,U.enc t a = .agg (c.BJ a)) (z:∀a,U.encS t a = .agg (c.encS a)) (A:∀v,U.IP t v=c.agg v):CU U E t:=by
 refine⟨fun a=>?_,fun v a h=>?_,fun a=>?_,fun a=>?_,fun a b h=>?_⟩
 ·rw[q,z,AY,hc.enc]
 ·rw[C,q];exact hc.agg (by rw[<- A];exact h)
 ·rw[q,z];exact(hc.enc a).symm
 ·rw[q];exact hc.nr a
 ·rw[q,q]at h;exact hc.inj _ _ (V.agg.inj h)
theorem CU.IM {U:DI} {E:Env} {t n:Nat} {c:AL U.Ty (U.Ty t)} (hc:Aa U c [n]) (F:E.rows t=[n]) (G:∀{v:SV U.Ty} {a:U.Ty t},c.one v=some a->∀cs,AY U v≠.agg cs) (q:∀a,U.enc t a=c.Bc a) (z:∀a,U.encS t a=c.D8 a) (A:∀v,U.IP t v=c.one v)
  (C:∀a,(c.Bc a).cells=[c.Bc a]) (D:∀a,cellsS (c.D8 a)=[c.D8 a]):CU U E t:=by
 refine⟨fun a=>?_,fun v a h=>?_,fun a=>?_,fun a=>?_,fun a b h=>?_⟩
 ·rw[q,z];exact hc.ZhN a
 ·rw[A]at h;rw[F,q];exact hc.one h (G h)
 ·rw[q,z,C,D,BB,BB,hc.ZhN]
 ·rw[q];exact hc.Qg a
 ·rw[q,q]at h;exact hc.Q7 h
def kU (p:Nat->Prop):List Nat->Prop
 | []=>True
 | t::ts=>p t/\kU p ts
theorem kU.at {p:Nat->Prop} {t:Nat}:∀{l:List Nat},kU p l->t∈l->p t:=by
 intro l;induction l with
 | nil=>intro _ m;cases m
 | cons x l q=>
  intro h m;rcases List.mem_cons.1 m with rfl|m
  ·exact h.1
  ·exact q h.2 m
section
variable {U:DI} {R P:Type}
def IL {R P:Type} (g:P->Option R):R⊕P->Option R
 | .inl r=>some r
 | .inr q=>g q
def SS (T:P->Tr U (R⊕P)):Nat->P->Option R
 | 0,_=>none
 | n+1,p=>(T p).den (IL (SS T n))
noncomputable def AU (T:P->Tr U (R⊕P)) (p:P):Option R:=kM fun n=>SS T n p
theorem Zi3 {L:Type} {J K:L->Option R} (h:∀l r,J l=some r->K l=some r):∀{T:Tr U L} {r:R},T.den J=some r->T.den K=some r:=by
 intro T;induction T with
 | leaf l=>intro r q;exact h l r q
 | br c a b A C=>intro r q;cases c with
  | true=>exact A q
  | false=>exact C q
 | bind t o k z=>intro r q;cases o with
  | none=>cases q
  | some a=>exact z a q
 | chk c a z=>intro r q;cases c with
  | true=>exact z q
  | false=>cases q
 | fail=>intro r q;cases q
theorem Zyr (T:P->Tr U (R⊕P)):∀n p r,SS T n p=some r->SS T (n+1) p=some r:=by
 intro n;induction n with
 | zero=>intro p r h;cases h
 | succ n z=>
  intro p r h;refine Zi3 ?_ h;intro l r hl;cases l with
  | inl a=>exact hl
  | inr q=>exact z q r hl
theorem Zh6 (T:P->Tr U (R⊕P)) {n:Nat} {p:P} {r:R} (h:SS T n p=some r):AU T p=some r:=
 ZFk (fun n a h=>Zyr T n p a h) h
theorem Aj (T:P->Tr U (R⊕P)) (p:P):AU T p=(T p).den (IL (AU T)):=by
 have I:∀r,AU T p=some r->(T p).den (IL (AU T))=some r:=by
  intro r h;obtain⟨n,A⟩:=Z33 h;cases n with
  | zero=>cases A
  | succ n=>
   refine Zi3 ?_ A;intro l r hl;cases l with
   | inl a=>exact hl
   | inr q=>exact Zh6 T hl
 have M:∀r,(T p).den (IL (AU T))=some r->AU T p=some r:=by
  intro r h;obtain⟨l,hl,G⟩:=Zgn h;have key:∃n,(T p).den (IL (SS T n))=some r:=by
   have A:∃n,IL (SS T n) l=some r:=by
    cases l with
    | inl a=>exact⟨0,G⟩
    | inr q=>obtain⟨n,A⟩:=Z33 G;exact⟨n,A⟩
   obtain⟨n,A⟩:=A;refine⟨n,?_⟩;have:∀(X:Tr U (R⊕P)),X.A7 l->X.den (IL (SS T n))=some r:=by
    intro X;induction X with
    | leaf x=>intro z;simp only[Tr.A7]at z;subst z;exact A
    | br c a b D F=>
     rintro (⟨rfl,z⟩|⟨rfl,z⟩)
     ·exact D z
     ·exact F z
    | bind t o k C=>rintro ⟨a,rfl,z⟩;exact C a z
    | chk c a C=>rintro ⟨rfl,z⟩;exact C z
    | fail=>intro z;exact z.elim
   exact this _ hl
  obtain⟨n,A⟩:=key;exact Zh6 T (n:=n+1) A
 cases J:AU T p with
 | some r=>exact(I r J).symm
 | none=>
  cases hb:(T p).den (IL (AU T)) with
  | none=>rfl
  | some r=>simp_all
structure BH (U:DI) where
 c:Code
 K:List Fr
 st:Dz U
 sk:Bool
def SI {R:Type} (out:R->SV U.Ty×BI U) (z:P->BH U):R⊕P->Xn U
 | .inl r=>.done (out r)
 | .inr q=>.jump (z q).c (z q).K (z q).st
end
def kJ {U:DI} (rt:Nat) (r:U.Ty rt):SV U.Ty×BI U:=(U.encS rt r,[])
structure Lay where
 keep:List Nat
 fa:List (List Fk)
 fb:List Bf
 sh:Shape
section
variable {U:DI}
def xJ {L:Type} (q:List Bool) (t:Tr U L):Tr U L:=match q with
 | []=>t
 | c::cs=>.chk (XD (c::cs)) t
theorem Z1T {L:Type} {q:List Bool} {t:Tr U L} {l:L} (h:(xJ q t).A7 l):(∀b∈q,b=true)/\t.A7 l:=by
 cases q with
 | nil=>exact⟨by intro b hb;simp at hb,h⟩
 | cons c cs=>exact⟨ZeT h.1,h.2⟩
def layT (q:Nat) (l:Lay) (st:Dz U):Tr U (Dz U):=
 (XP l.fa l.fb q (l.keep.map fun i=>st.s.getD i .und) st.H).andThen fun r=>
  .when (r.1.take q=List.range q) (match l.sh.dec (OO (r.1.idxOf ·) r.2.1) (X3 r.2.2 r.1) with
   | some x=>xJ x.2 (.leaf ⟨spread .und st.s.length l.keep (l.sh.enc x.1).1,(l.sh.enc x.1).2⟩)
   | none=>.fail)
theorem ZBu (s:List (SV U.Ty)) (keep:List Nat):BB U (keep.map fun i=>s.getD i .und)=keep.map fun i=>(BB U s).getD i .und:=by
 induction keep with
 | nil=>rfl
 | cons i keep q=>simp only[List.map_cons,BB,q,<- WW]
theorem ZFd {E:Env} (F:Dw U E) {z:Nat} {l:Lay} {st st' : Dz U} (h:(layT z l st).A7 st'):∃ids as A,pack l.fa l.fb z (l.keep.map fun i=>(DL U st).s.getD i .und) (DL U st).H=some (ids,as,A)/\ids.take z=List.range z /\
  DL U st' = ⟨spread .und (DL U st).s.length l.keep (IC (ids.idxOf ·) as),JP A ids⟩:=by
 simp only[layT,Eg,Es]at h;obtain⟨p,hp,hk,h⟩:=h;have q :=vP hp;rw[ZBu]at q;split at h
 ·rename_i x G;obtain⟨hb,h⟩:=Z1T h;simp only[Tr.A7]at h;subst h;obtain⟨C,D⟩:=Shape.xP F G hb;refine⟨_,_,_,q,hk,?_⟩;rw[QN]at C;rw[uI]at D;simp only[DL];rw[C,D,JY];congr 1;rw[FU,ZzD,<- FU];rfl
 ·simp[Tr.A7]at h
def yE (E:Env) (fn:Func) (fa:List (List Fk)) (fb:List Bf) (k:Nat) (sh:Shape) (one:Bool) (st:Dz U):Tr U (SV U.Ty×BI U):=
 (Z4R E fn fa fb k st).andThen fun r=>match one,r.1 with
  | true,.BK _=>.fail
  | true,v=>(match sh.dec [v] r.2 with
   | some x=>xJ x.2 (.leaf ((sh.enc x.1).1.headD .und,(sh.enc x.1).2))
   | none=>.fail)
  | false,.BK vs=>(match sh.dec vs r.2 with
   | some x=>xJ x.2 (.leaf (.BK (sh.enc x.1).1,(sh.enc x.1).2))
   | none=>.fail)
  | false,_=>.fail
theorem ZCZ {E:Env} (C:Dw U E) {fn:Func} {fa:List (List Fk)} {fb:List Bf} {k:Nat} {sh:Shape} {one:Bool} {st:Dz U} {r:SV U.Ty×BI U} (h:(yE E fn fa fb k sh one st).A7 r):Zh E fn fa fb k (DL U st) (AY U r.1,BP U r.2):=by
 simp only[yE,Eg]at h;obtain⟨q,I,h⟩:=h;have hz:=ZCM C I;have key:AY U q.1=AY U r.1/\BP U q.2=BP U r.2:=by
  split at h
  ·simp[Tr.A7]at h
  ·split at h
   ·rename_i x F;obtain⟨hb,h⟩:=Z1T h;simp only[Tr.A7]at h;subst h;obtain⟨z,A⟩:=Shape.xP C F hb;refine⟨?_,A⟩;cases G:(sh.enc x.1).1 with
    | nil=>rw[G]at z;cases z
    | cons y ys=>
     rw[G]at z;simp only[BB,List.cons.injEq]at z;exact z.1
   ·simp[Tr.A7]at h
  ·rename_i vs D;split at h
   ·rename_i x F;obtain⟨hb,h⟩:=Z1T h;simp only[Tr.A7]at h;subst h;obtain⟨z,A⟩:=Shape.xP C F hb;refine⟨?_,A⟩;rw[D];simp only[AY,z]
   ·simp[Tr.A7]at h
  ·simp[Tr.A7]at h
 simp_all
def Em (E:Env) (M:Ip U) (A:Nat->Option Lay) (f:FuncId) (fn:Func) (q:Nat) (D:Dz U->Tr U (SV U.Ty×BI U)):Nat->YB->List Fr->Dz U->Bool->Tr U (Xn U)
 | 0,_,_,_,_=>.fail
 | n+1,.run c,K,st,sk=>
  match c with
  | .skip=>Em E M A f fn q D n .nxt K st sk
  | .region id ops draw=>
   let z:Tr U (Xn U):=if draw then (if E.calm f id then (yK E M ops st).andThen fun st' =>Em E M A f fn q D n .nxt K st' false else .fail)
    else (opsT E M ops (List.range ops.size) st).andThen fun st' =>Em E M A f fn q D n .nxt K st' false
   match sk with
   | true=>z
   | false=>match A id with
    | none=>z
    | some l=>(layT q l st).andThen fun st' =>.leaf (.jump (.region id ops draw) K st')
  | .seq a b=>Em E M A f fn q D n (.run a) (.seq b::K) st sk
  | .cond c a b=>match D6 E st.s c with
   | .lit (.bool true)=>Em E M A f fn q D n (.run a) K st sk
   | .lit (.bool false)=>Em E M A f fn q D n (.run b) K st sk
   | .sb t=>.br t (Em E M A f fn q D n (.run a) K st sk) (Em E M A f fn q D n (.run b) K st sk)
   | _=>.fail
  | .block id b=>Em E M A f fn q D n (.run b) (.blk id::K) st sk
  | .loop b=>Em E M A f fn q D n (.run b) (.loop b::K) st sk
  | .scope b=>Em E M A f fn q D n (.run b) K st sk
  | .label _=>Em E M A f fn q D n .nxt K st sk
  | .exit id=>Em E M A f fn q D n (.exit id) K st sk
  | .ret=>Em E M A f fn q D n .ret K st sk
  | _=>.fail
 | n+1,.nxt,[],st,_=>(D st).andThen fun v=>.leaf (.done v)
 | n+1,.nxt,.seq c::K,st,sk=>Em E M A f fn q D n (.run c) K st sk
 | n+1,.nxt,.blk _::K,st,sk=>Em E M A f fn q D n .nxt K st sk
 | n+1,.nxt,.loop b::K,st,sk=>Em E M A f fn q D n (.run b) (.loop b::K) st sk
 | n+1,.exit id,.blk i::K,st,sk=>if id=i then Em E M A f fn q D n .nxt K st sk else Em E M A f fn q D n (.exit id) K st sk
 | n+1,.exit id,_::K,st,sk=>Em E M A f fn q D n (.exit id) K st sk
 | n+1,.exit _,[],_,_=>.fail
 | n+1,.ret,[],st,_=>(D st).andThen fun v=>.leaf (.done v)
 | n+1,.ret,_::K,st,sk=>Em E M A f fn q D n .ret K st sk
theorem ZEF {E:Env} {M:Ip U} {A:Nat->Option Lay} {call:EO} (Q:Dw U E) (hM:OT U M call) {f:FuncId} {fn:Func} {I:Nat} {D:Dz U->Tr U (SV U.Ty×BI U)} {Z:St->V×Heap->Prop} (hD:∀st s,(D st).A7 s->Z (DL U st) (AY U s.1,BP U s.2)) {r:V×Heap}:∀(n:Nat) (C:YB) (K:List Fr) (st:Dz U) (sk:Bool) (l:Xn U),
  (Em E M A f fn I D n C K st sk).A7 l->ZDo call E f fn I Z l r->Dn call E f fn I Z C K (DL U st) r:=by
 intro n;induction n with
 | zero=>intro C K st sk l h;simp[Em,Tr.A7]at h
 | succ n q=>
  intro C K st sk l h hl;cases C with
  | run c=>
   cases c with
   | skip=>exact .skip (q _ _ _ _ _ h hl)
   | region id ops draw=>
    simp only[Em]at h;have Y:(if draw=true then (if E.calm f id=true then (yK E M ops st).andThen fun st' =>Em E M A f fn I D n .nxt K st' false else .fail)
      else (opsT E M ops (List.range ops.size) st).andThen fun st' =>Em E M A f fn I D n .nxt K st' false:Tr U (Xn U)).A7 l->Dn call E f fn I Z (.run (.region id ops draw)) K (DL U st) r:=by
     intro G;cases draw with
     | true=>
      simp only[if_true]at G
      by_cases hc:E.calm f id=true
      ·rw[if_pos hc,Eg]at G;obtain⟨J,F,N⟩:=G;exact .draw hc (ZDa Q hM F) (q _ _ _ _ _ N hl)
      ·rw[if_neg hc]at G;simp[Tr.A7]at G
     | false=>
      simp only[Bool.false_eq_true,if_false]at G;rw[Eg]at G;obtain⟨J,F,N⟩:=G;exact .region (ZE4 Q hM F) (q _ _ _ _ _ N hl)
    cases sk with
    | true=>exact Y h
    | false=>
     simp only at h;split at h
     ·exact Y h
     ·rename_i l' hA;simp only[Eg,Tr.A7]at h;obtain⟨J,ht,rfl⟩:=h;obtain⟨ids,as,H2,F,N,h3⟩:=ZFd Q ht;have O : Dn call E f fn I Z (.run (.region id ops draw)) K (DL U J) r:=hl;rw[h3]at O;exact .Zin F N O
   | seq a b=>exact .seq (q _ _ _ _ _ h hl)
   | cond c a b=>
    simp only[Em]at h;have z:ev E (DL U st).s c=AY U (D6 E st.s c):=Gl E st.s c;split at h
    ·rename_i hc;rw[hc]at z;exact .cond (t:=true) z (q _ _ _ _ _ h hl)
    ·rename_i hc;rw[hc]at z;exact .cond (t:=false) z (q _ _ _ _ _ h hl)
    ·rename_i t hc;rw[hc]at z;simp only[Tr.A7]at h;rcases h with ⟨rfl,h⟩|⟨rfl,h⟩
     ·exact .cond (t:=true) z (q _ _ _ _ _ h hl)
     ·exact .cond (t:=false) z (q _ _ _ _ _ h hl)
    ·simp[Tr.A7]at h
   | block id b=>exact .block (q _ _ _ _ _ h hl)
   | loop b=>exact .loop (q _ _ _ _ _ h hl)
   | scope b=>exact .scope (q _ _ _ _ _ h hl)
   | label l=>exact .label (q _ _ _ _ _ h hl)
   | exit id=>exact .exit (q _ _ _ _ _ h hl)
   | ret=>exact .ret (q _ _ _ _ _ h hl)
   | _=>simp[Em,Tr.A7]at h
  | nxt=>
   cases K with
   | nil=>
    simp only[Em,Eg,Tr.A7]at h;obtain⟨v,F,rfl⟩:=h;have:r=(AY U v.1,BP U v.2):=hl;rw[this];exact .finN (hD _ _ F)
   | cons x K=>
    cases x with
    | seq c=>exact .nseq (q _ _ _ _ _ h hl)
    | blk i=>exact .nblk (q _ _ _ _ _ h hl)
    | loop b=>exact .Zig (q _ _ _ _ _ h hl)
  | exit id=>
   cases K with
   | nil=>simp[Em,Tr.A7]at h
   | cons x K=>
    cases x with
    | seq c=>exact .eseq (q _ _ _ _ _ h hl)
    | blk i=>
     simp only[Em]at h;split at h
     ·rename_i S;subst S;exact .eblk (q _ _ _ _ _ h hl)
     ·rename_i S;exact .Zim S (q _ _ _ _ _ h hl)
    | loop b=>exact .Zit (q _ _ _ _ _ h hl)
  | ret=>
   cases K with
   | nil=>
    simp only[Em,Eg,Tr.A7]at h;obtain⟨v,F,rfl⟩:=h;have:r=(AY U v.1,BP U v.2):=hl;rw[this];exact .finR (hD _ _ F)
   | cons x K=>exact .rany (q _ _ _ _ _ h hl)
theorem ZeL {R P:Type} {E:Env} {M:Ip U} {A:Nat->Option Lay} {call:EO} (Y:Dw U E) (S:OT U M call) {f:FuncId} {fn:Func} {J:Nat} {D:Dz U->Tr U (SV U.Ty×BI U)} {Z:St->V×Heap->Prop} (Q:∀st s,(D st).A7 s->Z (DL U st) (AY U s.1,BP U s.2))
  {out:R->SV U.Ty×BI U} {N:Nat} (T:P->Tr U (R⊕P)) (z:P->BH U)
  (h:∀p,Em E M A f fn J D N (.run (z p).c) (z p).K (z p).st (z p).sk=(T p).map (SI out z)) {p:P} {r:R} (I:AU T p=some r) :
  Dn call E f fn J Z (.run (z p).c) (z p).K (DL U (z p).st) (AY U (out r).1,BP U (out r).2):=by
 obtain⟨n,G⟩:=Z33 I;clear I;induction n generalizing p r with
 | zero=>cases G
 | succ n ih=>
  obtain⟨l,O,C⟩:=Zgn G;have F:=ZDf (g:=SI out z) O;rw[<- h p]at F;refine ZEF Y S Q N _ _ _ _ _ F ?_;cases l with
  | inl a=>
   simp only[IL,Option.some.injEq]at C;subst C;rfl
  | inr q=>exact ih C
end
def spot {U:DI} (c:Code) (p:List Nat) (n:Nat) (keep:List Nat) (e:List (SV U.Ty)×BI U):BH U:=⟨(Qv c p []).1,(Qv c p []).2,⟨spread .und n keep e.1,e.2⟩,true⟩
theorem Z3N {U:DI} {P:Program} {gl:Nat->Option (List V)} {f:FuncId} {mods:FuncId->Option (Ai U)} {hmods:FuncId->List FuncId->Option (HMod U)} {mk:Q8 P} {E0:Env} (J:E0.FM=gl) (D:Dw U (EV P gl f mods hmods mk)) (G:P.follows .mixedOrders=true) {fn:Func} {c:Code}
  (O:∀g m,mods g=some m->Ah P E0 g m) (F:∀g k m,hmods g k=some m->Cf P E0 g m) (M:P.funcs[f]? = some fn) (z:(fn.name == "runtime.NumGoroutine")=false) (hb:fn.body=some c) (q:Eo (EV P gl f mods hmods mk) f c=true) (m:Ai U)
  {I:Type} {A:Nat->Option Lay} {N:Nat} (T:I->Tr U (U.Ty m.rt⊕I)) (C:I->BH U)
  (h:∀p,Em (EV P gl f mods hmods mk) (Qj mods hmods mk.tab) A f fn 0 (XQ (EV P gl f mods hmods mk) fn) N (.run (C p).c) (C p).K (C p).st (C p).sk=(T p).map (SI (kJ m.rt) C))
  (b0:Fa U m.ts->I) (hm:∀x,m.fn x=AU T (b0 x)) (Q:∀x,C (b0 x)=⟨c,[],jK m.ts x fn.ntmps,false⟩):Ah P E0 f m:=by
 refine fn_ok J D G O F M z hb q m fun x a S=>?_;rw[hm]at S;have:=ZeL D (ZhD D) (fun st s hs=>ZCJ D hs) T C h S;rw[Q]at this;simp only[kJ,D.encS]at this;exact this
theorem ZCn {U:DI} {P:Program} {gl:Nat->Option (List V)} {f:FuncId} {mods:FuncId->Option (Ai U)} {hmods:FuncId->List FuncId->Option (HMod U)} {mk:Q8 P} {E0:Env} (J:E0.FM=gl) (I:Dw U (EV P gl f mods hmods mk)) (F:P.follows .mixedOrders=true) {fn:Func} {c:Code}
  (O:∀g m,mods g=some m->Ah P E0 g m) (D:∀g k m,hmods g k=some m->Cf P E0 g m) (M:P.funcs[f]? = some fn) (z:(fn.name == "runtime.NumGoroutine")=false) (hb:fn.body=some c) (q:Eo (EV P gl f mods hmods mk) f c=true) (m:HMod U)
  {fa:List (List Fk)} {fb:List Bf} {k:Nat} (hk:∀x:m.Dv.X U,(m.Dv.enc x).2.length=k) {G:Type} {A:Nat->Option Lay} {N:Nat} (T:G->Tr U (U.Ty m.ky⊕G)) (C:G->BH U)
  (h:∀p,Em (EV P gl f mods hmods mk) (Qj mods hmods mk.tab) A f fn k (yE (EV P gl f mods hmods mk) fn fa fb k m.Jv m.one) N (.run (C p).c) (C p).K (C p).st (C p).sk=(T p).map (SI m.out C))
  (b0:m.Dv.X U->G) (hm:∀x:m.Dv.X U,m.fn x=AU T (b0 x)) (Q:∀x:m.Dv.X U,C (b0 x)=⟨c,[],jI (m.Dv.enc x) fn.ntmps,false⟩):Cf P E0 f m:=by
 refine ZIs J I F O D M z hb q m hk (fa:=fa) (fb:=fb) fun x y S=>?_;rw[hm]at S;have:=ZeL I (ZhD I) (fun st s hs=>ZCZ I hs) T C h S;rw[Q]at this;exact this
end Go.Proofs.YtjodhcdmhobmoaaGreatDoor.Le
namespace Go.Proofs.YtjodhcdmhobmoaaGreatDoor.Le
open Go.RowKit (Below)
def J9 (P:Program):TypeDesc->Option (List (Nat×TypeId))
 | .struct fs=>some (fs.toList.map fun f=>(f.offset,f.type))
 | .array n e=>some ((List.range n).map fun i=>(i*P.cellsOf e,e))
 | _=>none
def Ja (P:Program) (t:TypeId):Bool:=match P.underlying t with|some d=>d.isRow|none=>false
def Gv (P:Program):Nat->TypeId->List V->Prop
 | 0,_,_=>False
 | d+1,t,cs=>match P.underlying t with
  | some .bool=>∃b,cs=[.lit (.bool b)]
  | some (.int k)=>∃n,cs=[.lit (.int k n)]/\(Lit.int k n).wf=true
  | some .string=>∃s,cs=[.lit (.string s)]/\s.size<=maxLen
  | some (.slice e)=>∃xs,cs=[.sl false (P.cellsOf e) xs]/\xs.length<=maxLen/\∀x∈xs,(if Ja P e then ∃z,x = .agg z else x.cells=[x])/\Gv P d e x.cells
  | some q=>match J9 P q with
   | some ss=>cs.length=P.cellsOf t/\∀s∈ss,Gv P d s.2 ((cs.drop s.1).take (P.cellsOf s.2))
   | none=>False
  | none=>False
def covers (P:Program):Nat->List (Nat×TypeId)->Nat->Bool
 | off,[],n=>off==n
 | off,s::ss,n=>s.1==off&&covers P (off+P.cellsOf s.2) ss n
def U9 (P:Program):Nat->TypeId->Bool
 | 0,_=>false
 | d+1,t=>match P.underlying t with
  | some .bool=>true
  | some (.int _)=>true
  | some .string=>true
  | some (.slice e)=>U9 P d e&&decide (0<P.cellsOf e)
  | some q=>match J9 P q with
   | some ss=>ss.all (fun s=>U9 P d s.2)&&covers P 0 ss (P.cellsOf t)
   | none=>false
  | none=>false
def NT (w:World):Nat->Nat->Prop:=fun b c=>∃u,w.cell? ⟨b,c,none⟩=some u
structure Read (P:Program) (w:World) (d:Nat) (t:TypeId) (cs:List Value) (xs:List V):Prop where
 EF:AV (bare (NT w)) w xs cs
 ty:Gv P d t xs
 ok:∀x∈xs,FW x=true
 one:∀u∈cs,u.oneCell' = true
theorem ZfN {P:Program}:∀{ss:List (Nat×TypeId)} {off n:Nat},covers P off ss n=true->off<=n/\∀s∈ss,off<=s.1/\s.1+P.cellsOf s.2<=n:=by
 intro ss;induction ss with
 | nil=>intro off n h;simp only[covers,beq_iff_eq]at h;exact⟨by omega,by simp⟩
 | cons s ss q=>
  intro off n h;simp only[covers,Bool.and_eq_true,beq_iff_eq]at h
  grind
theorem ZAi {P:Program} {w:World} {d:Nat} {cs:List Value}:∀{ss:List (Nat×TypeId)} {off:Nat},covers P off ss cs.length=true->(∀s∈ss,∃xs,Read P w d s.2 ((cs.drop s.1).take (P.cellsOf s.2)) xs) ->
  ∃xs,AV (bare (NT w)) w xs (cs.drop off)/\(∀x∈xs,FW x=true)/\(∀u∈cs.drop off,u.oneCell' = true)/\∀s∈ss,Gv P d s.2 ((xs.drop (s.1 - off)).take (P.cellsOf s.2)):=by
 intro ss;induction ss with
 | nil=>
  intro off hc _;simp only[covers,beq_iff_eq]at hc;refine⟨[],?_,by simp,?_,by simp⟩
  ·rw[hc,List.drop_length];exact .nil
  ·rw[hc,List.drop_length];simp
 | cons s ss M=>
  intro off hc h;simp only[covers,Bool.and_eq_true,beq_iff_eq]at hc;obtain⟨D,C⟩:=hc;obtain⟨x1,A⟩:=h s (by simp);obtain⟨N,q1,q2,q3,Q⟩:=M C (fun z hs' =>h z (by simp[hs']));have J:=(ZfN C).1;rw[D]at A;have F:x1.length=P.cellsOf s.2:=by
   have:=A.EF.length;rw[List.length_take,List.length_drop]at this;omega
  have q:cs.drop off=(cs.drop off).take (P.cellsOf s.2)++cs.drop (off+P.cellsOf s.2):=by
   rw[<- List.drop_drop,List.take_append_drop]
  refine⟨x1++N,?_,?_,?_,?_⟩
  ·rw[q];exact A.EF.append q1
  ·intro x hx;rcases List.mem_append.1 hx with hx|hx
   ·exact A.ok x hx
   ·exact q2 x hx
  ·intro u hu;rw[q]at hu;rcases List.mem_append.1 hu with hu|hu
   ·exact A.one u hu
   ·exact q3 u hu
  ·intro z hs';rcases List.mem_cons.1 hs' with rfl|hs'
   ·rw[D,Nat.sub_self,List.drop_zero,List.take_append_of_le_length (by omega),List.take_of_length_le (by omega)];exact A.ty
   ·have I:=((ZfN C).2 z hs').1;have:z.1 - off=x1.length+(z.1 - (off+P.cellsOf s.2)):=by omega
    rw[this,List.drop_append];have G:x1.drop (x1.length+(z.1 - (off+P.cellsOf s.2)))=[]:=List.drop_eq_nil_of_le (by omega);rw[G,List.nil_append];have O:x1.length+(z.1 - (off+P.cellsOf s.2)) - x1.length=z.1 - (off+P.cellsOf s.2):=by omega
    grind
def Nc (P:Program) (t:TypeId) (xs:List V):V:=if Ja P t then .agg xs else xs.headD .no
def Uy (P:Program) (t:TypeId) (cs:List Value):Value:=if Ja P t then .agg cs.toArray else cs.headD undef
theorem Gv.single {P:Program} {d:Nat} {t:TypeId} {xs:List V} (h:Gv P d t xs) (z:Ja P t=false):∃x,xs=[x]/\x.cells=[x]:=by
 cases d with
 | zero=>exact h.elim
 | succ d=>
  unfold Gv at h;unfold Ja at z;split at h
  ·obtain⟨b,rfl⟩:=h;exact⟨_,rfl,rfl⟩
  ·obtain⟨n,rfl,_⟩:=h;exact⟨_,rfl,rfl⟩
  ·obtain⟨s,rfl,_⟩:=h;exact⟨_,rfl,rfl⟩
  ·obtain⟨ys,rfl,_⟩:=h;exact⟨_,rfl,rfl⟩
  ·rename_i C _ _ _ _ A;rw[A]at z;split at h
   ·rename_i ss q;unfold J9 at q
    grind
   ·exact h.elim
  ·exact h.elim
theorem Read.arg {P:Program} {w:World} {d:Nat} {t:TypeId} {cs:List Value} {xs:List V} (h:Read P w d t cs xs) :
  AV (bare (NT w)) w [Nc P t xs] [Uy P t cs]/\FW (Nc P t xs)=true/\(Uy P t cs).cells.toList=cs/\(Nc P t xs).cells=xs/\(if Ja P t then ∃A,Nc P t xs = .agg A else (Nc P t xs).cells=[Nc P t xs]):=by
 unfold Nc Uy;cases F:Ja P t with
 | true=>
  simp only[if_true];refine⟨?_,?_,by simp[Value.cells],rfl,⟨xs,rfl⟩⟩
  ·have:=AV.agg h.EF h.one (xs:=[]) (vs:=[]) .nil;exact this
  ·simp only[FW,okV,DF,Bool.true_and];rw[LX];exact fun x q=>Rk (h.ok x q)
 | false=>
  simp only[Bool.false_eq_true,if_false];obtain⟨x,rfl,q⟩:=h.ty.single F;obtain⟨u,us,rfl,C,D⟩:=h.EF.EP;have:us=[]:=D.Fj;subst this;refine⟨C,h.ok x (by simp),?_,q,q⟩;have z:=h.one u (by simp);simp only[List.headD_cons];cases u<;>simp_all [Value.cells,Value.oneCell']
section
variable {H:Type} {enc:TypeId×Value->H} {P:Program} {w:World} {base:Nat} {held:Bool}
theorem ZFq:∀(d:Nat) (t:TypeId) (n:Nat) (cs:List Value) (x:DataW H×List MemPlace),U9 P d t=true->DataW.trod enc P w base (fun _=>true) held n t cs=some x->∃xs,Read P w d t cs xs:=by
 intro d;induction d with
 | zero=>intro t n cs x h;simp[U9]at h
 | succ d ih=>
  intro t n cs x hp h;unfold U9 at hp;split at hp
  ·rename_i D;obtain⟨b,rfl,_⟩:=DataW.trod_bool D h;exact⟨[.lit (.bool b)],.lit rfl .nil,by unfold Gv;rw[D];exact⟨b,rfl⟩,by simp[FW,okV,DF],by simp[Value.oneCell']⟩
  ·rename_i k D;obtain⟨m,rfl,_,hw⟩:=DataW.trod_int D h;exact⟨[.lit (.int k m)],.lit (by simp[leaf,hw]) .nil,by unfold Gv;rw[D];exact⟨m,rfl,hw⟩,by simp[FW,okV,DF],by simp[Value.oneCell']⟩
  ·rename_i D;obtain⟨s,rfl,_,hs⟩:=DataW.trod_string D h;exact⟨[.lit (.string s)],.lit (by simp[leaf,hs]) .nil,by unfold Gv;rw[D];exact⟨s,rfl,hs⟩,by simp[FW,okV,DF],by simp[Value.oneCell']⟩
  ·rename_i e D;simp only[Bool.and_eq_true,decide_eq_true_eq]at hp;obtain⟨hpe,hpos⟩:=hp;have mk:∀(v:Value) (es:List V),AV (bare (NT w)) w [.sl false (P.cellsOf e) es] [v]->v.oneCell' = true->es.length<=maxLen->(∀y∈es,FW y=true) ->
     (∀y∈es,(if Ja P e then ∃ds,y = .agg ds else y.cells=[y])/\Gv P d e y.cells)->∃xs,Read P w (d+1) t [v] xs:=by
    intro v es h1 h2 h3 h4 h5;refine⟨_,h1,?_,?_,by simpa using h2⟩
    ·unfold Gv;rw[D];exact⟨es,rfl,h3,h5⟩
    ·intro y hy;simp only[List.mem_singleton]at hy;subst hy;simp only[FW,okV,DF,Bool.true_and];rw[LX];exact fun z hz=>Rk (h4 z hz)
   rcases DataW.trod_slice D h with ⟨rfl,_⟩|⟨a,len,cap,I,rest,m,rfl,rfl,_,hb,hlc,hcm,hel,J,C,_⟩
   ·exact mk _ [] (.Ew .nil) rfl (by simp) (by simp) (by simp)
   ·obtain⟨hrl,C⟩:=C rfl
    by_cases hc0:cap=0
    ·subst hc0;have:len=0:=by omega
     subst this;exact mk _ [] (.GL a .nil) rfl (by simp) (by simp) (by simp)
    ·
     have M:a.spot=none:=by
      have N:∃c0,w.cells? base (a.add 0) (P.cellsOf e)=some c0:=by
       by_cases S:0<len
       ·have:=J 0 S;rw[Nat.zero_mul]at this;have A:0<I.length:=by omega
        rw[List.getElem?_eq_getElem A]at this;cases F:w.cells? base (a.add 0) (P.cellsOf e) with
        | none=>simp[F]at this
        | some c0=>exact⟨c0,rfl⟩
       ·have S:len=0:=by omega
        subst S;have:=C 0 (by omega);simp only[Nat.zero_add,Nat.zero_mul]at this;have A:0<rest.length:=by omega
        rw[List.getElem?_eq_getElem A]at this;cases F:w.cells? base (a.add 0) (P.cellsOf e) with
        | none=>simp[F]at this
        | some c0=>exact⟨c0,rfl⟩
      obtain⟨c0,hc0'⟩:=N;obtain⟨_,e2,e3⟩:=World.cells?_some hc0';have:=e3 0 hpos;have A:0<c0.length:=by omega
      rw[List.getElem?_eq_getElem A]at this;simp only[Addr.add,if_true]at this;unfold World.cell? at this;split at this
      ·simp_all
      ·cases this
     obtain⟨ab,ao,as⟩:=a;simp only at M;subst M;have each:∀i,i<len->∃ci xi,w.cells? base (Addr.add ⟨ab,ao,none⟩ (i*P.cellsOf e)) (P.cellsOf e)=some ci/\Read P w d e ci xi:=by
      intro i hi;have:=J i hi;have A:i<I.length:=by omega
      rw[List.getElem?_eq_getElem A]at this;cases F:w.cells? base (Addr.add ⟨ab,ao,none⟩ (i*P.cellsOf e)) (P.cellsOf e) with
      | none=>simp[F]at this
      | some ci=>
       grind
     have list:∀k,k<=len->∃(es:List V) (us:List Value),es.length=k/\AV (bare (NT w)) w es us/\(∀y∈es,FW y=true)/\(∀u∈us,u.cells.size=P.cellsOf e)/\(∀u∈flat us,u.oneCell' = true) /\
       (∀y∈es,(if Ja P e then ∃ds,y = .agg ds else y.cells=[y])/\Gv P d e y.cells)/\(∀j u,(flat us)[j]? = some u->w.cell? ⟨ab,ao+j,none⟩=some u):=by
      intro k;induction k with
      | zero=>intro _;exact⟨[],[],rfl,.nil,by simp,by simp,by simp[flat],by simp,by simp[flat]⟩
      | succ k ihk=>
       intro hk;obtain⟨es,us,l1,l2,l3,l4,l5,l6,l7⟩:=ihk (by omega);obtain⟨ci,xi,hci,hr⟩:=each k (by omega);obtain⟨a1,a2,a3,a4,a5⟩:=hr.arg;obtain⟨_,c2,c3⟩:=World.cells?_some hci;have hsz:(Uy P e ci).cells.size=P.cellsOf e:=by
        have:=congrArg List.length a3;simpa[c2]using this
       refine⟨es++[Nc P e xi],us++[Uy P e ci],by simp[l1],l2.append a1,?_,?_,?_,?_,?_⟩
       ·grind
       ·grind
       ·intro u hu;rw[Og]at hu;rcases List.mem_append.1 hu with hu|hu
        ·exact l5 u hu
        ·rw[OD,a3]at hu;exact hr.one u hu
       ·intro y hy;rcases List.mem_append.1 hy with hy|hy
        ·exact l6 y hy
        ·rw[List.mem_singleton.1 hy];exact⟨a5,by rw[a4];exact hr.ty⟩
       ·intro j u Q;rw[Og,OD,a3]at Q;have hfl:(flat us).length=k*P.cellsOf e:=by rw[flat_length l4,<- l2.length,l1]
        by_cases A:j<(flat us).length
        ·grind
        ·rw[List.getElem?_append_right (by omega)]at Q;have hjl:j - (flat us).length<P.cellsOf e:=by
          have:=(List.getElem?_eq_some_iff.1 Q).1;omega
         have:=c3 _ hjl;rw[Q]at this;rw[<- this];congr 1;have hadd:Addr.add (Addr.add ⟨ab,ao,none⟩ (k*P.cellsOf e)) (j - (flat us).length)=⟨ab,ao+j,none⟩:=by
          simp only[Addr.add];split<;>split<;>simp<;>omega
         rw[hadd]
     obtain⟨es,us,l1,l2,l3,l4,l5,l6,l7⟩:=list len (Nat.le_refl _);subst l1;refine mk _ es ?_ rfl (by omega) l3 l6;exact .sl ab ao cap (P.cellsOf e) l2 l3 l4 l5 hlc hcm (fun j u Q=>⟨⟨u,l7 j u Q⟩,l7 j u Q⟩) .nil
  ·rename_i dd _ _ _ _ D;split at hp
   ·rename_i ss G;simp only[Bool.and_eq_true,List.all_eq_true]at hp;obtain⟨hall,hcov⟩:=hp;have Y:cs.length=P.cellsOf t/\∀s∈ss,∃xs,Read P w d s.2 ((cs.drop s.1).take (P.cellsOf s.2)) xs:=by
     cases dd with
     | struct fs=>
      simp only[J9,Option.some.injEq]at G;obtain⟨xs,m,_,_,q,hxl,hf⟩:=DataW.trod_struct D h;refine⟨q,fun s hs=>?_⟩;have hs' :=hs;rw[<- G]at hs;obtain⟨f,hfm,rfl⟩:=List.mem_map.1 hs;obtain⟨i,hi,hfi⟩:=List.getElem_of_mem hfm;have hfi' : fs[i]? = some f:=by simp at hi;rw[Array.getElem?_eq_getElem hi];simp at hfi;rw[hfi]
      grind
     | array n' e=>
      simp only[J9,Option.some.injEq]at G;obtain⟨xs,m,_,_,q,hxl,hf⟩:=DataW.trod_array D h
      grind
     | _=>simp[J9]at G
    obtain⟨q,O⟩:=Y;obtain⟨xs,h1,h2,h3,h4⟩:=ZAi (by rw[q];exact hcov) O;rw[List.drop_zero]at h1 h3;refine⟨xs,h1,?_,h2,h3⟩;unfold Gv;rw[D];simp only[Nat.sub_zero]at h4;split<;>first|(rename_i F;simp only[Option.some.injEq]at F;subst F;simp[J9]at G;done)|skip
    ·rename_i F;simp only[Option.some.injEq]at F;subst F;rw[G];exact⟨by rw[h1.length];exact q,h4⟩
    ·rename_i F;cases F
   ·cases hp
  ·cases hp
inductive iP (P:Program) (d:Nat):List TypeId->List V->Prop where
 | nil:iP P d [] []
 | cons {t ts xs as}:Gv P d t xs->iP P d ts as->iP P d (t::ts) (Nc P t xs::as)
theorem Zye {r:Reach} {b0:Nat} {d:Nat} {t:TypeId} {v:Value} {xs:List V} (z:Value.okWide P w r b0 t v) (h:Read P w d t v.cells.toList xs):Uy P t v.cells.toList=v:=by
 unfold Uy;cases q:Ja P t with
 | true=>
  simp only[if_true];unfold Ja at q;split at q
  ·rename_i D A;unfold Value.okWide at z;rw[A]at z;cases D<;>simp[TypeDesc.isRow]at q
   ·obtain⟨cs,rfl,_⟩:=z;simp[Value.cells]
   ·obtain⟨cs,rfl,_⟩:=z;simp[Value.cells]
  ·cases q
 | false=>
  simp only[Bool.false_eq_true,if_false];obtain⟨x,rfl,_⟩:=h.ty.single q;have C:∀cs,v≠.agg cs:=by
   rintro cs rfl
   unfold Ja at q;unfold Value.okWide at z;split at z
   ·rename_i A;rw[A]at q;simp[TypeDesc.isRow]at q
   ·rename_i A;rw[A]at q;simp[TypeDesc.isRow]at q
   ·unfold Cell.okWide at z;split at z<;>simp_all [Cell.ok]
  cases v<;>first|rfl|exact absurd rfl (C _)
theorem ZF2 {d:Nat}:∀{ts:List TypeId} {vs:List Value} {z:List (DataW H)} {ps:List MemPlace},DataW.TrodAll enc P w base (fun _=>true) held ts vs z ps->(∀t∈ts,U9 P d t=true) ->
  (∀(j:Nat) t v,ts[j]? = some t->vs[j]? = some v->∃r b0,Value.okWide P w r b0 t v)->∃as,AV (bare (NT w)) w as vs/\iP P d ts as:=by
 intro ts;induction ts with
 | nil=>
  intro vs z ps h _ _;cases vs with
  | nil=>exact⟨[],.nil,.nil⟩
  | cons v vs=>cases z<;>exact h.elim
 | cons t ts Q=>
  intro vs z ps h hp J;cases vs with
  | nil=>exact h.elim
  | cons v vs=>
   cases z with
   | nil=>exact h.elim
   | cons d0 z=>
    obtain⟨p,q,⟨fuel,M⟩,N,_⟩:=h;obtain⟨as,S,Y⟩:=Q N (fun G D =>hp G (by simp[D])) (fun j G v' O A =>J (j+1) G v' (by simpa using O) (by simpa using A));obtain⟨xs,F⟩:=ZFq d t fuel _ _ (hp t (by simp)) M;obtain⟨r,b0,C⟩:=J 0 t v rfl rfl;have I:=F.arg.1;rw[Zye C F]at I;exact⟨_,AV.F8.2 ⟨I,S⟩,.cons F.ty Y⟩
end
end Go.Proofs.YtjodhcdmhobmoaaGreatDoor.Le
namespace Go.Proofs.YtjodhcdmhobmoaaGreatDoor.Le
open Go.RowKit (Below)
open Go.ChangeShapes
structure DX (P:Program) {Ty:Nat->Type} {T:Type} (c:AL Ty T) (t:TypeId) (wf:T->Prop):Prop where
 rd:∀(d:Nat) (xs:List V),Gv P d t xs->∃a,c.BJ a=xs/\wf a
structure Du (P:Program) {Ty:Nat->Type} {T:Type} (c:AL Ty T) (ss:List (Nat×TypeId)) (off n:Nat) (wf:T->Prop):Prop where
 rd:∀(d:Nat) (xs:List V),xs.length=n->(∀s∈ss,Gv P d s.2 ((xs.drop s.1).take (P.cellsOf s.2)))->∃a,c.BJ a=xs.drop off/\wf a
def WI (k:IntKind) (a:Int):Prop:=(Lit.int k a).wf=true
def WB (_:Bool):Prop:=True
def WS (s:ByteArray):Prop:=s.size<=maxLen
def WL {α:Type} (p:α->Prop) (xs:List α):Prop:=xs.length<=maxLen/\∀x∈xs,p x
def WU (_:Unit):Prop:=True
section
variable {P:Program} {Ty:Nat->Type} {T:Type}
theorem DX.int {k:IntKind} {t:TypeId} (q:P.underlying t=some (.int k)):DX P (AL.int k:AL Ty Int) t (WI k):=by
 refine⟨fun d xs h=>?_⟩;cases d with
 | zero=>exact h.elim
 | succ d=>
  unfold Gv at h;rw[q]at h;obtain⟨n,rfl,z⟩:=h;exact⟨n,rfl,z⟩
theorem DX.bool {t:TypeId} (q:P.underlying t=some .bool):DX P (AL.bool:AL Ty Bool) t WB:=by
 refine⟨fun d xs h=>?_⟩;cases d with
 | zero=>exact h.elim
 | succ d=>
  unfold Gv at h;rw[q]at h;obtain⟨n,rfl⟩:=h;exact⟨n,rfl,trivial⟩
theorem DX.str {t:TypeId} (q:P.underlying t=some .string):DX P (AL.str:AL Ty ByteArray) t WS:=by
 refine⟨fun d xs h=>?_⟩;cases d with
 | zero=>exact h.elim
 | succ d=>
  unfold Gv at h;rw[q]at h;obtain⟨n,rfl,z⟩:=h;exact⟨n,rfl,z⟩
theorem Zhp {α:Type} {p:α->Prop} {e:α->V}:∀{xs:List V},(∀x∈xs,∃a,e a=x/\p a)->∃as:List α,as.map e=xs/\∀a∈as,p a:=by
 intro xs;induction xs with
 | nil=>simp_all
 | cons x xs C=>
  intro h;obtain⟨a,q,hp⟩:=h x (by simp);obtain⟨as,has,z⟩:=C (fun y A=>h y (by simp[A]));refine⟨a::as,by simp[q,has],fun b hb=>?_⟩
  grind
theorem DX.rows {t e n:Nat} {c:AL Ty (Ty e)} {wf:Ty e->Prop} (G:P.underlying t=some (.slice e)) (D:P.cellsOf e=n) (F:Ja P e=true) (hc:DX P c e wf) :
  DX P (AL.list e n (fun a=>.agg (c.BJ a)):AL Ty (List (Ty e))) t (WL wf):=by
 refine⟨fun d xs h=>?_⟩;cases d with
 | zero=>exact h.elim
 | succ d=>
  unfold Gv at h;rw[G]at h;obtain⟨ys,rfl,hl,J⟩:=h;obtain⟨as,has,hp⟩:=Zhp (p:=wf) (e:=fun a=>V.agg (c.BJ a)) (xs:=ys) (fun y q =>by
   obtain⟨z,A⟩:=J y q;rw[if_pos F]at z;obtain⟨M,rfl⟩:=z;obtain⟨a,C,I⟩:=hc.rd d _ A;exact⟨a,by rw[C];rfl,I⟩)
  subst D;exact⟨as,by simp only[AL.list,has],by grind,hp⟩
theorem DX.ones {t e n:Nat} {c:AL Ty (Ty e)} {wf:Ty e->Prop} (G:P.underlying t=some (.slice e)) (D:P.cellsOf e=n) (F:Ja P e=false) (hc:DX P c e wf) :
  DX P (AL.list e n (fun a=>c.Bc a):AL Ty (List (Ty e))) t (WL wf):=by
 refine⟨fun d xs h=>?_⟩;cases d with
 | zero=>exact h.elim
 | succ d=>
  unfold Gv at h;rw[G]at h;obtain⟨ys,rfl,hl,J⟩:=h;obtain⟨as,has,hp⟩:=Zhp (p:=wf) (e:=fun a=>c.Bc a) (xs:=ys) (fun y q =>by
   obtain⟨z,A⟩:=J y q;rw[if_neg (by simp[F])]at z;obtain⟨a,C,I⟩:=hc.rd d _ A;exact⟨a,by simp only[AL.Bc,C,z];rfl,I⟩)
  subst D;exact⟨as,by simp only[AL.list,has],by grind,hp⟩
theorem Du.unit {off n:Nat} (h:off=n):Du P (AL.unit:AL Ty Unit) [] off n WU:=by
 refine⟨fun d xs hl _=>⟨(),?_,trivial⟩⟩;subst h;rw[<- hl,List.drop_length];rfl
theorem Du.pair {A B:Type} {a:AL Ty A} {b:AL Ty B} {t off n k:Nat} {ss:List (Nat×TypeId)} {C:A->Prop} {D:B->Prop} (F:DX P a t C) (hk:P.cellsOf t=k) (hb:Du P b ss (off+k) n D) :
  Du P (AL.pair a b) ((off,t)::ss) off n (fun x=>C x.1/\D x.2):=by
 refine⟨fun d xs hl h=>?_⟩;obtain⟨x,G,q⟩:=F.rd d _ (h (off,t) (by simp));obtain⟨y,I,z⟩:=hb.rd d xs hl (fun s hs=>h s (by simp[hs]));refine⟨(x,y),?_,q,z⟩;simp only[AL.pair,G,I];rw[hk,<- List.drop_drop,List.take_append_drop]
theorem DX.row {c:AL Ty T} {t n:Nat} {q:TypeDesc} {ss:List (Nat×TypeId)} {wf:T->Prop} (D:P.underlying t=some q) (z:J9 P q=some ss) (C:P.cellsOf t=n) (h:Du P c ss 0 n wf):DX P c t wf:=by
 refine⟨fun d xs A=>?_⟩;cases d with
 | zero=>exact A.elim
 | succ d=>
  unfold Gv at A;rw[D]at A;have key:xs.length=P.cellsOf t/\∀s∈ss,Gv P d s.2 ((xs.drop s.1).take (P.cellsOf s.2)):=by
   cases q with
   | struct fs=>simp_all
   | array m e=>simp_all
   | _=>simp[J9]at z
  obtain⟨a,F,G⟩:=h.rd d xs (key.1.trans C) key.2
  grind
theorem DX.DC {A B:Type} {f:A->B} {g:B->A} {b:AL Ty B} {t:TypeId} {wf:B->Prop} (hb:DX P b t wf) (q:∀y,f (g y)=y):DX P (AL.DC f g b) t (fun x=>wf (f x)):=by
 refine⟨fun d xs h=>?_⟩;obtain⟨y,C,z⟩:=hb.rd d xs h;exact⟨g y,by simp only[AL.DC,q];exact C,by rw[q];exact z⟩
end
structure VD (P:Program) (U:DI) (t:TypeId) (wf:U.Ty t->Prop):Prop where
 rd:∀d xs,Gv P d t xs->∃a,U.enc t a=Nc P t xs/\wf a
theorem VD.rows {P:Program} {U:DI} {t:TypeId} {c:AL U.Ty (U.Ty t)} {wf:U.Ty t->Prop} (A:Ja P t=true) (hc:DX P c t wf) (z:∀a,U.enc t a = .agg (c.BJ a)):VD P U t wf:=by
 refine⟨fun d xs h=>?_⟩;obtain⟨a,q,C⟩:=hc.rd d xs h;exact⟨a,by rw[z,q];simp[Nc,A],C⟩
theorem VD.ones {P:Program} {U:DI} {t:TypeId} {c:AL U.Ty (U.Ty t)} {wf:U.Ty t->Prop} (A:Ja P t=false) (hc:DX P c t wf) (z:∀a,U.enc t a=c.Bc a):VD P U t wf:=by
 refine⟨fun d xs h=>?_⟩;obtain⟨a,q,C⟩:=hc.rd d xs h;exact⟨a,by rw[z];simp[Nc,A,AL.Bc,q],C⟩
inductive Sj (P:Program) (U:DI):(ts:List Nat)->(Fa U ts->Prop)->Prop where
 | nil:Sj P U [] (fun _=>True)
 | cons {t ts wf W}:VD P U t wf->Sj P U ts W->Sj P U (t::ts) (fun x=>wf x.1/\W x.2)
theorem ZDl {P:Program} {U:DI} {ts:List Nat} {W:Fa U ts->Prop} (h:Sj P U ts W):∀{d:Nat} {as:List V},iP P d ts as->∃x:Fa U ts,Hz ts x=as/\W x:=by
 induction h with
 | nil=>intro d as q;cases q;exact⟨(),rfl,trivial⟩
 | cons D _ I=>
  intro d as q;cases q with
  | cons z A=>
   obtain⟨a,q,F⟩:=D.rd _ _ z;obtain⟨x,G,C⟩:=I A;exact⟨(a,x),by simp[Hz,q,G],F,C⟩
section
variable {H:Type} {enc:TypeId×Value->H} {P:Program}
theorem ZaI {W I : World} {J:Nat->Bool} (hl:laidOutB P=true):∀{ts:List TypeId} {vs:List Value} {C:List (DataW H)} {ps:List MemPlace},(∀t∈ts,P.readableRec t=true/\t<P.types.size) ->
  DataW.TrodAll enc P W 0 (fun _=>true) true ts vs C ps->Below W.heap.size W I -> (∀p∈ps,p.block<W.heap.size)->(∀p∈ps,J p.block=true)->DataW.TrodAll enc P I 0 J true ts vs C ps
 | [],[],[],_,_,h,_,_,_=>h
 | t::ts,v::vs,d::C,_,D,⟨p,q,M,N,e⟩,hb,z,A=>
  ⟨p,q,WideElems.Trod_stays hl (D t (by simp)).1 (D t (by simp)).2 M (fun x G=>hb.same (z x (by simp_all))) (fun x G=>A x (by simp_all)),
   ZaI hl (fun t F =>D t (by simp[F])) N hb (fun x G=>z x (by simp_all)) (fun x G=>A x (by simp_all)),e⟩
theorem ZCO {f:Func} {s:ChangeSpec} {apart fresh A I:Bool} {W W' : World} {args:Array Value} {D z:List (DataW H)} {before:List MemPlace} {tb:TypeId} (hl:laidOutB P=true) (hts:∀t∈f.params.toList,P.readableRec t=true/\t<P.types.size)
  (S:DataW.Whole enc P f.params.toList s.vars apart W args.toList D z before) (hb:Below W.heap.size W W') (hr:f.resultTypes = #[tb]) (O:P.underlying tb=some .bool)
  (h1:(s.fn H (D++z)).results=[.lit (.bool true)]) (h2:(s.fn H (D++z)).args=D) (h3:(s.fn H (D++z)).vars=z)
  (hvars:∀(pv:List MemPlace),DataW.TrodVars enc P W (fun _=>true) s.vars z pv->(∀p∈pv,p.block<W.heap.size)->∀q:Nat->Bool,(∀p∈pv,q p.block=true)->DataW.TrodVars enc P W' q s.vars z pv) :
  s.post enc P f apart fresh A I W args (.bool true) W' :=by
 have J:=S.lt;have Y:=S;obtain⟨pa,pv,hA,hV,hps,hz,hn⟩:=S;have F:∀p∈before,(fun b=>decide (b<W.heap.size)) p.block=true:=fun p hp=>by simpa using J p hp
 have M:∀p∈pa,p∈before:=fun p hp=>by simp_all
 have hpv:∀p∈pv,p∈before:=fun p hp=>by simp_all
 have C:∀q:Nat->Bool,(∀p∈before,q p.block=true)->DataW.TrodAll enc P W' 0 q true f.params.toList args.toList (s.fn H (D++z)).args pa:=fun q N=>by
  rw[h2];exact ZaI hl hts hA hb (fun p hp=>J p (M p hp)) (fun p hp=>N p (M p hp))
 have Q:∀q:Nat->Bool,(∀p∈before,q p.block=true)->DataW.TrodVars enc P W' q s.vars (s.fn H (D++z)).vars pv:=fun q N=>by
  simp_all
 have G:∀(b:Nat) (q:Nat->Bool) (hd:Bool),DataW.TrodAll enc P W' b q hd f.resultTypes.toList ((Value.bool true).resultList f.resultTypes.size) (s.fn H (D++z)).results []:=fun b q hd=>by
  rw[h1,hr];exact trodAll_cons_mk (p:=[]) (p' :=[]) (RowKit.shut_bool O _) trodAll_mk0
 refine⟨D,z,before,[],pa,pv,Y,G _ _ _,C _ F,Q _ F,World.keptBut_mono (fun p hp=>⟨hp,?_⟩) (hb.frame (·∈before)),fun _=>?_⟩
 ·simp_all
 ·refine⟨RowKit.ok_one hr rfl (RowKit.okWide_bool_mk O _),_,_,([]++pa)++pv,⟨[]++pa,pv,trodAll_append (C _ (fun _ _=>rfl)) (G _ _ _),Q _ (fun _ _=>rfl),rfl,?_,?_⟩,?_⟩
  ·intro b off hp;have hm:MemPlace.cell b off∈before:=by rw[hps];simpa using hp
   rw[hb.frozen (p:=⟨b,off,none⟩) (J _ hm)];exact hz b off hm
  ·simp_all
  simp_all
theorem ZGB {U:DI} {E0:Env} {f:FuncId} {fn:Func} {m:Ai U} {s:ChangeSpec} {apart fresh z F:Bool} {tb:TypeId} (hok:Ah P E0 f m) {Wf:Fa U m.ts->Prop} (hrd:Sj P U m.ts Wf) (D:fn.params.toList=m.ts) {d:Nat} (hpl:∀t∈m.ts,U9 P d t=true)
  (hl:laidOutB P=true) (hts:∀t∈m.ts,P.readableRec t=true/\t<P.types.size) (hr:fn.resultTypes = #[tb]) (htb:P.underlying tb=some .bool) {tt:U.Ty m.rt} (htt:U.enc m.rt tt = .lit (.bool true)) (N:∀x,Wf x->m.fn x=some tt)
  (M:∀(C q:List (DataW H)),C.length=m.ts.length->q.length=s.vars.length->(s.fn H (C++q)).results=[.lit (.bool true)]/\(s.fn H (C++q)).args=C/\(s.fn H (C++q)).vars=q)
  {W:World} {args:Array Value} {C q:List (DataW H)} {A:List MemPlace} (S:∀(j:Nat) t v,fn.params[j]? = some t->args[j]? = some v->∃r b0,Value.okWide P W r b0 t v)
  (hW:DataW.Whole enc P fn.params.toList s.vars apart W args.toList C q A) (hg:EK E0 (bare (NT W)) W)
  (O:∀(W' : World),Below W.heap.size W W' -> ∀(Y:List MemPlace),DataW.TrodVars enc P W (fun _=>true) s.vars q Y->(∀p∈Y,p.block<W.heap.size)->∀sp:Nat->Bool,(∀p∈Y,sp p.block=true)->DataW.TrodVars enc P W' sp s.vars q Y)
  (hdl:C.length=m.ts.length) (hgl:q.length=s.vars.length) :
  Calls P f args W fun e W' =>∃v,e = .returned v/\s.post enc P fn apart fresh z F W args v W' :=by
 have hW0:=hW;obtain⟨pa,Y,hA,hV,hps,hz,hn⟩:=hW;rw[D]at hA;obtain⟨as,J,I⟩:=ZF2 hA hpl (fun j t v hj hv=>S j t v (by grind) (by simp_all));obtain⟨x,hx,hwf⟩:=ZDl hrd I;have G:=hok.pure x tt (N x hwf) (NT W) W args.toList (fun b c hh=>hh) hg (by rw[hx];exact J);refine G.mono ?_
 rintro e W' ⟨u,fz',rfl,hb,_,_,_,Q,_⟩
 rw[htt]at Q;cases Q with
 | lit _ _=>
  obtain⟨s1,s2,s3⟩:=M C q hdl hgl;exact⟨_,rfl,ZCO hl (by rw[D];exact hts) hW0 hb hr htb s1 s2 s3 (O W' hb)⟩
end
end Go.Proofs.YtjodhcdmhobmoaaGreatDoor.Le
