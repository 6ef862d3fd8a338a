/- A part of it. -/
import Derived.Test.YtjodhcdmhobmoaaGreatDoorVL4
import Derived.OpenShut
import Derived.Carry
import Derived.ProofKit
set_option linter.unusedVariables false
set_option linter.unusedSimpArgs false
namespace Go.Proofs.YtjodhcdmhobmoaaGreatDoor.Le
open Go.RowKit (Below)
structure Zi5 (k:Nat) (ids:List Nat) (st st' : St):Prop where
 nodup:ids.Nodup
 pre:ids.take k=List.range k
 len:st'.H.length=ids.length
 heap:∀(j id:Nat),ids[j]? = some id->∃b b',st.H[id]? = some b/\b.live=true/\st'.H[j]? = some b' /\ b'.live=true/\b'.row=b.row/\(b'.Ep=true->b.Ep=true)/\b'.elem=b.elem/\b'.Au=b.Au /\
  (b.floor<=b'.floor\/b'.floor=b'.xs.length)/\b'.floor<=b'.xs.length/\(b.row=true->b'.xs=b.xs)/\(b.row=false->b'.xs=Ho (ids.idxOf ·) b.xs/\∀r∈Dv b.xs,r∈ids)
 slen:st'.s.length=st.s.length
 slots:∀(i:Nat) (v' : V),st'.s[i]? = some v' -> v' = .und\/∃v,st.s[i]? = some v/\v' = Fz (ids.idxOf ·) v/\∀r∈Eb v,r∈ids
theorem Zdo {σ:Sg} {w:World}:∀{xs:List V} {vs:List Value},xs.length=vs.length->(∀(i:Nat) (x:V) (v:Value),xs[i]? = some x->vs[i]? = some v->AV σ w [x] [v])->AV σ w xs vs:=by
 intro xs;induction xs with
 | nil=>intro vs hl _;cases vs with|nil=>exact .nil|cons=>simp at hl
 | cons x xs A=>
  intro vs hl h;cases vs with
  | nil=>simp at hl
  | cons v vs=>exact AV.FZ.2 ⟨h 0 x v rfl rfl,A (by simpa using hl) (fun i y u q z=>h (i+1) y u (by simpa using q) (by simpa using z))⟩
theorem ZDn {E:Env} {B:Nat} {w0:Start} {σ:Sg} {st st' : St} {a:Act} {w:World} {k:Nat} {ids:List Nat} (J:Zi5 k ids st st') (h:FU E B w0 σ st a w):FU E B w0 (σ.ren ids) st' a w:=by
 have C:∀{j:Nat} {L:Loc},(σ.ren ids).box j=some L->∃id,ids[j]? = some id/\σ.box id=some L:=by
  intro j L M;simp only[Sg.ren]at M;cases hj:ids[j]? with
  | none=>simp[hj]at M
  | some id=>simp_all
 have I:∀{j:Nat} {G : Box},st'.H[j]? = some G -> ∃id,ids[j]? = some id:=by
  intro j G hb;have Y:=(List.getElem?_eq_some_iff.1 hb).1;rw[J.len]at Y;exact⟨ids[j],List.getElem?_eq_getElem Y⟩
 refine⟨⟨h.inv.below,h.inv.size,?_,?_,?_,h.inv.cells,?_,?_,h.inv.old,fun b hb=>?_⟩,h.Ey.bare (fun b c hh=>⟨hh,rfl⟩) (Ec.refl _),?_,h.calm⟩
 ·intro j L M;obtain⟨id,h1,h2⟩:=C M;obtain⟨b,G,_,_,q1,q2,_⟩:=J.heap j id h1;exact⟨G,q1,q2⟩
 ·intro j G hb hl;obtain⟨id,F⟩:=I hb;obtain⟨b,b2,O,Q,S,p4,p5,p6,p7,p8,p9,p10,z,A⟩:=J.heap j id F;rw[hb]at S;cases S;obtain⟨L,M,q⟩:=h.inv.boxes id b O Q;obtain⟨us,r1,r2,r3,r4⟩:=q.ED;refine⟨L,by simp[Sg.ren,F,M],?_⟩;have D:G.xs.length=b.xs.length:=by
   cases hr:b.row with
   | true=>rw[z hr]
   | false=>rw[(A hr).1,Z2d]
  have N:AV (σ.ren ids) w G.xs us:=by
   cases hr:b.row with
   | true=>rw[z hr];exact r1.bare (fun b c hh=>⟨hh,rfl⟩) (Ec.refl _) ((Lm _).2 (q.IZ hr))
   | false=>rw[(A hr).1];exact jV r1 (A hr).2
  refine⟨by rw[D];exact q.tot,⟨us,N,r2,r3,by rw[p7,D];exact r4⟩,fun hn=>q.Ep (p6 hn),by rw[p8];exact q.Au,?_,?_⟩
  ·intro x hx;cases hr:b.row with
   | true=>rw[z hr]at hx;exact q.oks x hx
   | false=>
    rw[(A hr).1,Z3W]at hx;obtain⟨y,hy,rfl⟩:=List.mem_map.1 hx;rw[Zgq];exact q.oks y hy
  ·intro hr x hx;rw[p5]at hr;rw[z hr]at hx;exact q.IZ hr x hx
 ·intro j j' b1 b2 L1 L2 g h1 h2 l1 l2 s1 s2 g1 g2;obtain⟨i1,e1,t1⟩:=C s1;obtain⟨i2,e2,t2⟩:=C s2;obtain⟨c1,_,O,Q,_⟩:=J.heap j i1 e1;obtain⟨c2,_,q1,q2,_⟩:=J.heap j' i2 e2;have:=h.inv.apart i1 i2 c1 c2 L1 L2 g O q1 Q q2 t1 t2 g1 g2;subst this;exact ZeY J.nodup e1 e2
 ·intro b c hc j G L hb hl M hg;obtain⟨id,F,hL'⟩:=C M;obtain⟨b0,b2,O,Q,S,p4,p5,p6,p7,p8,p9,p10,z,A⟩:=J.heap j id F;rw[hb]at S;cases S;have:=h.inv.floor b c hc id b0 L O Q hL' hg;have D:G.xs.length=b0.xs.length:=by
   cases hr:b0.row with
   | true=>rw[z hr]
   | false=>rw[(A hr).1,Z2d]
  have hle:b0.floor<=G.floor:=by
   rcases p9 with p9|p9
   ·exact p9
   ·rw[p9,D];exact h.inv.low id b0 O Q
  exact Nat.lt_of_lt_of_le this (Nat.mul_le_mul_right _ hle)
 ·intro j G hb hl;obtain⟨id,F⟩:=I hb;obtain⟨b0,b2,O,Q,S,p4,p5,p6,p7,p8,p9,p10,z,A⟩:=J.heap j id F
  simp_all
 ·obtain⟨k1,k2,k3,k4⟩:=h.inv.kept b hb;refine⟨k1,k2,fun j L M hg=>?_,k4⟩
  grind
 ·refine Zdo (by rw[J.slen];exact h.slots.length) (fun i x v hx hv=>?_);rcases J.slots i x hx with rfl|⟨y,hy,rfl,hc⟩
  ·exact .und _ .nil
  ·obtain⟨u,hu,hr⟩:=h.slots.get hy;rw[hv]at hu;cases hu;exact jV hr (by simpa[Dv]using hc)
def spread {α:Type} (u:α) (n:Nat):List Nat->List α->List α
 | k::ks,v::vs=>(spread u n ks vs).set k v
 | _,_=>List.replicate n u
theorem Zr6 {α:Type} (u:α) (n:Nat):∀(ks:List Nat) (vs:List α),(spread u n ks vs).length=n:=by
 intro ks;induction ks with
 | nil=>intro vs;simp[spread]
 | cons k ks q=>intro vs;cases vs<;>simp[spread,q]
theorem Zxx {α:Type} (u:α) (n:Nat):∀(ks:List Nat) (vs:List α) (i:Nat) (x:α),(spread u n ks vs)[i]? = some x->x=u\/∃j:Nat,ks[j]? = some i/\vs[j]? = some x:=by
 intro ks;induction ks with
 | nil=>
  intro vs i x h;simp only[spread,List.getElem?_replicate]at h
  simp_all
 | cons k ks A=>
  intro vs i x h;cases vs with
  | nil=>
   simp only[spread,List.getElem?_replicate]at h
   simp_all
  | cons v vs=>
   simp only[spread,List.getElem?_set]at h;split at h
   ·rename_i hk;subst hk;split at h
    ·exact .inr ⟨0,rfl,h⟩
    ·cases h
   ·rcases A vs i x h with h|⟨j,q,z⟩
    ·exact .inl h
    ·exact .inr ⟨j+1,q,z⟩
theorem Zy8 {α z:Type} (g:α->z) (u:α) (n:Nat):∀(ks:List Nat) (vs:List α),(spread u n ks vs).map g=spread (g u) n ks (vs.map g):=by
 intro ks;induction ks with
 | nil=>intro vs;simp[spread]
 | cons k ks q=>intro vs;cases vs<;>simp[spread,List.map_set,q]
theorem ZAa {σ:Sg} {w:World} {xs:List V} {vs:List Value} (h:AV σ w xs vs):∀keep:List Nat,AV σ w (keep.map fun i=>xs.getD i .und) (keep.map fun i=>vs.getD i undef):=by
 intro keep;induction keep with
 | nil=>exact .nil
 | cons i keep q=>
  simp only[List.map_cons];refine AV.FZ.2 ⟨?_,q⟩;cases hx:xs[i]? with
  | none=>simp only[List.getD,hx,Option.getD_none];exact .und _ .nil
  | some x=>
   obtain⟨v,hv,hr⟩:=h.get hx
   simp_all
theorem ZBU {E:Env} {B:Nat} {w0:Start} {σ:Sg} {st:St} {a:Act} {w:World} {k:Nat} {fa:List (List Fk)} {fb:List Bf} {keep ids:List Nat} {as:List V} {F:Heap} (hp:pack fa fb k (keep.map fun i=>st.s.getD i .und) st.H=some (ids,as,F))
  (h:FU E B w0 σ st a w):∃z,Ext σ w z w/\FU E B w0 (z.ren ids) ⟨spread .und st.s.length keep (Ho (ids.idxOf ·) as),J9 F ids⟩ a w:=by
 obtain⟨hs,hm,_,z,q,A,D⟩:=Z4U h.inv (ZAa h.slots keep) hp;have C:=Z56 q hs w0 q.below q.old (fun b hb=>by
  obtain⟨k1,k2,k3,k4⟩:=q.kept b hb
  grind)
 refine⟨z,A,C,(h.Ey.ext A).bare (fun b c I=>⟨I,rfl⟩) (Ec.refl _),?_,h.calm⟩;refine Zdo (by rw[Zr6];exact h.slots.length) (fun i x v hx hv=>?_);rcases Zxx _ _ _ _ i x hx with rfl|⟨j,J,G⟩
 ·exact .und _ .nil
 ·obtain⟨u,hu,hr⟩:=(jV D hm).get G
  simp_all
inductive Yq where
 | run (c:Code)|nxt|exit (id:Nat)|ret
inductive Fr where
 | seq (c:Code)|blk (id:Nat)|loop (b:Code)
def PO:List (List Nat)->List V->List V
 | es::rs,v::vs=>ES es v::PO rs vs
 | [],vs=>vs
 | _,[]=>[]
def TA (rs:List (List Nat)):V->V
 | .BH vs=>.BH (PO rs vs)
 | v=>ES (rs.headD []) v
inductive Dj (call:EM) (E:Env) (f:FuncId) (fn:Func) (k:Nat) (Z:St->V×Heap->Prop):Yq->List Fr->St->V×Heap->Prop where
 | skip {K st r}:Dj call E f fn k Z .nxt K st r->Dj call E f fn k Z (.run .skip) K st r
 | region {id ops K st st' r}:OJ call E ops (List.range ops.size) st=some st' -> Dj call E f fn k Z .nxt K st' r->Dj call E f fn k Z (.run (.region id ops false)) K st r
 | draw {id ops K st st' r}:E.calm f id=true->V6 call E ops st=some st' -> Dj call E f fn k Z .nxt K st' r->Dj call E f fn k Z (.run (.region id ops true)) K st r
 | seq {a b K st r}:Dj call E f fn k Z (.run a) (.seq b::K) st r->Dj call E f fn k Z (.run (.seq a b)) K st r
 | cond {c a b t K st r}:ev E st.s c = .lit (.bool t)->Dj call E f fn k Z (.run (if t then a else b)) K st r->Dj call E f fn k Z (.run (.cond c a b)) K st r
 | block {id b K st r}:Dj call E f fn k Z (.run b) (.blk id::K) st r->Dj call E f fn k Z (.run (.block id b)) K st r
 | loop {b K st r}:Dj call E f fn k Z (.run b) (.loop b::K) st r->Dj call E f fn k Z (.run (.loop b)) K st r
 | scope {b K st r}:Dj call E f fn k Z (.run b) K st r->Dj call E f fn k Z (.run (.scope b)) K st r
 | label {l K st r}:Dj call E f fn k Z .nxt K st r->Dj call E f fn k Z (.run (.label l)) K st r
 | exit {id K st r}:Dj call E f fn k Z (.exit id) K st r->Dj call E f fn k Z (.run (.exit id)) K st r
 | ret {K st r}:Dj call E f fn k Z .ret K st r->Dj call E f fn k Z (.run .ret) K st r
 | nseq {c K st r}:Dj call E f fn k Z (.run c) K st r->Dj call E f fn k Z .nxt (.seq c::K) st r
 | nblk {id K st r}:Dj call E f fn k Z .nxt K st r->Dj call E f fn k Z .nxt (.blk id::K) st r
 | Zi7 {b K st r}:Dj call E f fn k Z (.run b) (.loop b::K) st r->Dj call E f fn k Z .nxt (.loop b::K) st r
 | eseq {id c K st r}:Dj call E f fn k Z (.exit id) K st r->Dj call E f fn k Z (.exit id) (.seq c::K) st r
 | ZhM {id b K st r}:Dj call E f fn k Z (.exit id) K st r->Dj call E f fn k Z (.exit id) (.loop b::K) st r
 | eblk {id K st r}:Dj call E f fn k Z .nxt K st r->Dj call E f fn k Z (.exit id) (.blk id::K) st r
 | ZhZ {id i K st r}:id≠i->Dj call E f fn k Z (.exit id) K st r->Dj call E f fn k Z (.exit id) (.blk i::K) st r
 | rany {x K st r}:Dj call E f fn k Z .ret K st r->Dj call E f fn k Z .ret (x::K) st r
 | finN {st r}:Z st r->Dj call E f fn k Z .nxt [] st r
 | finR {st r}:Z st r->Dj call E f fn k Z .ret [] st r
 | tidy {ctl K ids st st' r}:Zi5 k ids st st' -> Dj call E f fn k Z ctl K st' r->Dj call E f fn k Z ctl K st r
 | ZhL {ctl K fa fb keep ids as H2 st r}:pack fa fb k (keep.map fun i=>st.s.getD i .und) st.H=some (ids,as,H2)->ids.take k=List.range k->Dj call E f fn k Z ctl K ⟨spread .und st.s.length keep (Ho (ids.idxOf ·) as),J9 H2 ids⟩ r->Dj call E f fn k Z ctl K st r
def LoopIn (P:Program) (b:Code) (Q:Exit->Act->World->Prop) (a:Act) (w:World):Prop:=
 ∀z k cs,∃e q w',Q e q w' /\ Arrives P (lone (z.at a (.code b :: .inLoop b::k)) cs w) z k cs e q w'
theorem LoopIn.of {P:Program} {b:Code} {Q:Exit->Act->World->Prop} {a:Act} {w:World} (h:b.wp P (Exit.then (LoopIn P b Q) Q) a w):LoopIn P b Q a w:=by
 intro M k cs;obtain⟨e,z,A,F,q⟩:=h M (.inLoop b::k) cs;cases e with
 | normal=>
  obtain⟨I,G,J,D,C⟩:=F M k cs;exact⟨I,G,J,D,.of_steps (Steps.trans q (.one step_inLoop)) C⟩
 | exit id=>exact⟨_,z,A,F,.pass (x:=.inLoop b) rfl (fun _ _=>.inl (by simp)) q⟩
 | goto l=>exact⟨_,z,A,F,.pass (x:=.inLoop b) rfl (fun _ _=>.inl (by simp)) q⟩
 | ret=>exact⟨_,z,A,F,.pass (x:=.inLoop b) rfl (fun _ _=>.inl (by simp)) q⟩
 | panic N=>exact⟨_,z,A,F,.pass (x:=.inLoop b) rfl (fun _ _=>.inl (by simp)) q⟩
 | outgrown=>exact⟨_,z,A,F,.pass (x:=.inLoop b) rfl (fun _ _=>.inl (by simp)) q⟩
theorem LoopIn.wp {P:Program} {b:Code} {Q:Exit->Act->World->Prop} {a:Act} {w:World} (h:LoopIn P b Q a w):(Code.loop b).wp P Q a w:=by
 intro A k cs;obtain⟨e,z,w',C,q⟩:=h A k cs;exact⟨e,z,w',C,.of_steps (.one step_loop) q⟩
def QK (P:Program) (Z:Act->World->Prop):List Fr->Exit->Act->World->Prop
 | [],.normal,a,w=>Z a w
 | [],.ret,a,w=>Z a w
 | [],_,_,_=>False
 | .seq c::K,e,a,w=>Exit.then (c.wp P (QK P Z K)) (QK P Z K) e a w
 | .blk id::K,e,a,w=>Exit.inBlock id (QK P Z K) e a w
 | .loop b::K,e,a,w=>Exit.then (LoopIn P b (QK P Z K)) (QK P Z K) e a w
theorem xH {P:Program} {Z:Act->World->Prop} {l:Nat} {a:Act} {w:World}:∀K:List Fr,QK P Z K (.goto l) a w->False
 | [],h=>h
 | .seq _::K,h=>xH K h
 | .blk _::K,h=>xH K h
 | .loop _::K,h=>xH K h
def Z5I (P:Program) (Z:Act->World->Prop) (K:List Fr) (a:Act) (w:World):Yq->Prop
 | .run c=>c.wp P (QK P Z K) a w
 | .nxt=>QK P Z K .normal a w
 | .exit id=>QK P Z K (.exit id) a w
 | .ret=>QK P Z K .ret a w
def jY (E:Env) (f:FuncId):Yq->Bool
 | .run c=>Ef E f c
 | _=>true
def Nu (E:Env) (f:FuncId):List Fr->Bool
 | []=>true
 | .seq c::K=>Ef E f c&&Nu E f K
 | .loop c::K=>Ef E f c&&Nu E f K
 | .blk _::K=>Nu E f K
theorem ZqG {σ w}:∀(rs:List (List Nat)) {xs:List V} {vs:List Value},AV σ w xs vs->AV σ w (PO rs xs) vs:=by
 intro rs;induction rs with
 | nil=>intro xs vs h;simpa[PO]using h
 | cons r rs A=>
  intro xs vs h;cases xs with
  | nil=>simpa[PO]using h
  | cons x xs=>
   obtain⟨v,C,rfl,q,z⟩:=h.EN;exact AV.FZ.2 ⟨Un _ q,A z⟩
theorem Zst {σ w x v} (rs:List (List Nat)) (h:AV σ w [x] [v]):AV σ w [TA rs x] [v]:=by
 unfold TA;split
 ·cases h with
  | BH q _=>exact .BH (ZqG rs q) .nil
 ·exact Un _ h
theorem Zpn:∀(rs:List (List Nat)) (xs:List V),CS (PO rs xs)=CS xs:=by
 intro rs;induction rs with
 | nil=>intro xs;simp[PO]
 | cons r rs q=>intro xs;cases xs<;>simp[PO,CS,Ui,q]
theorem Za7 (rs:List (List Nat)) (x:V) (h:DC x=true):DC (TA rs x)=true:=by
 unfold TA;split
 ·simpa[DC,Zpn]using h
 ·rw[Ui];exact h
def Zp (E:Env) (fn:Func) (st:St) (r:V×Heap):Prop:=∃q z,MK E st.H st.s fn.results.toList=some q/\KG st.H q=some z/\r=(TA (fn.resultTypes.toList.map E.rows) z,[])
def Zh (E:Env) (fn:Func) (fa:List (List Fk)) (fb:List Bf) (k:Nat) (st:St) (r:V×Heap):Prop:=∃q,MK E st.H st.s fn.results.toList=some q/\zD fa fb k q st.H=some r
def Fin (P:Program) (fn:Func) (B:Nat) (w0:Start) (r:V×Heap) (a:Act) (w:World):Prop:=
 a.defers=[]/\∃u q,(results fn a.tmps).run P w = .ok u w/\Below B w0.w w/\(∀b c,w0.fz b c->q b c)/\(∀b c,q b c->b<B->w0.fz b c)/\(∀b c,q b c->∃u,w.cell? ⟨b,c,none⟩=some u)/\AV (bare q) w [r.1] [u]/\DC r.1=true
def FinH (P:Program) (fn:Func) (B:Nat) (w0:Start) (σ0:Sg) (ws:World) (r:V×Heap) (a:Act) (w:World):Prop:=
 a.defers=[]/\∃u σ',(results fn a.tmps).run P w = .ok u w/\Inv B w0 σ' r.2 w/\Ext σ0 ws σ' w/\AV σ' w [r.1] [u]
structure QD (k:Nat) (σ:Sg) (w:World) (σ' : Sg) (w' : World):Prop where
 box:∀id L,id<k->σ.box id=some L->∃L',σ'.box id=some L' /\ L'.Au=L.Au/\(L' = L\/L.tot<L'.tot)
 fz:∀b c,σ.fz b c->σ'.fz b c/\w'.cell? ⟨b,c,none⟩=w.cell? ⟨b,c,none⟩
 mp:Ec w w'
theorem Ext.k {k:Nat} {σ w σ' w'} (h:Ext σ w σ' w'):QD k σ w σ' w' :=⟨fun id L _ q=>h.box id L q,h.fz,h.mp⟩
theorem QD.trans {k:Nat} {σ w σ' w' σ'' w''} (h:QD k σ w σ' w') (g:Ext σ' w' σ'' w''):QD k σ w σ'' w'' :=by
 refine⟨fun id L hk D=>?_,fun b c hc=>?_,h.mp.trans g.mp⟩
 ·obtain⟨q,C,G,I⟩:=h.box id L hk D;obtain⟨z,k1,k2,k3⟩:=g.box id q C
  grind
 ·obtain⟨A,F⟩:=h.fz b c hc;obtain⟨b1,b2⟩:=g.fz b c A
  simp_all
theorem ZwF {ids:List Nat} {k j:Nat} (h:ids.take k=List.range k) (q:j<k):ids[j]? = some j:=by
 have:(ids.take k)[j]? = some j:=by rw[h];simp[q]
 grind
theorem QD.ren {k:Nat} {σ w σ' w'} {ids:List Nat} (h:QD k σ w σ' w') (hp:ids.take k=List.range k):QD k σ w (σ'.ren ids) w' :=by
 refine⟨fun id L hk C=>?_,h.fz,h.mp⟩;obtain⟨q,z,A⟩:=h.box id L hk C;exact⟨q,by simp only[Sg.ren,ZwF hp hk,Option.bind_some];exact z,A⟩
section
variable {P:Program} {E:Env} {B:Nat} {w0:Start} {call:EM} {f:FuncId} {fn:Func}
theorem ZFV (M:DV E) (hP:E.P=P) {σ:Sg} {st:St} {a:Act} {w:World} {r:V×Heap} (h:FU E B w0 σ st a w) (D:∀b c,w0.fz b c->σ.fz b c) (hz:Zp E fn st r):Fin P fn B w0 r a w:=by
 obtain⟨I,O,hr,hf,rfl⟩:=hz;obtain⟨u,hu,z⟩:=uO (P:=P) M hP h.inv h.slots hr;obtain⟨C,A⟩:=h.inv.freeze (QH I);have G:=Z3U h.inv z hf (QH I) (fun i N=>N);have J:=Z37 h.inv z hf;refine⟨h.calm,u,(σ.freeze st.H (QH I)).fz,hu,C.below,fun b c q=>(A.fz b c (D b c q)).1,fun b c q F=>C.old b c q F,C.cells,?_,Za7 _ _ J⟩;exact AV.bare (Zst _ G) (fun b c q=>⟨q,rfl⟩) (Ec.refl _) (by simp[CS,Za7 _ _ J])
theorem ZDx (Y:DV E) (hP:E.P=P) {fa:List (List Fk)} {fb:List Bf} {k:Nat} {σ0:Sg} {ws:World} (Q:∀id L,σ0.box id=some L->id<k) {σ:Sg} {st:St} {a:Act} {w:World} {r:V×Heap} (h:FU E B w0 σ st a w) (hx:QD k σ0 ws σ w)
  (hz:Zh E fn fa fb k st r):FinH P fn B w0 σ0 ws r a w:=by
 obtain⟨r0,hr,q⟩:=hz;obtain⟨u,hu,D⟩:=uO (P:=P) Y hP h.inv h.slots hr;have key:∀{args as:List V} {vs:List Value} {ids:List Nat} {A:Heap},AV σ w args vs->pack fa fb k args st.H=some (ids,as,A)->ids.take k=List.range k ->
   ∃σ',Inv B w0 σ' (J9 A ids) w/\Ext σ0 ws σ' w/\AV σ' w (Ho (ids.idxOf ·) as) vs:=by
  intro args as vs ids A I hp hk;obtain⟨hs,hm,_,σ1,z,F,G⟩:=Z4U h.inv I hp;have C:=Z56 z hs w0 z.below z.old (fun b hb=>by
   obtain⟨k1,k2,k3,k4⟩:=z.kept b hb
   grind)
  refine⟨_,C,?_,jV G hm⟩;have:=(hx.trans F).ren hk;exact⟨fun id L O=>this.box id L (Q id L O) O,this.fz,this.mp⟩
 refine⟨h.calm,u,?_⟩;unfold zD at q;split at q
 ·rename_i vs;split at q
  ·rename_i ids as A hp;split at q
   ·rename_i hk;simp only[Option.some.injEq]at q;subst q;cases D with
    | BH S _=>
     obtain⟨σ',J,M,N⟩:=key S hp hk;exact⟨σ',hu,J,M,.BH N .nil⟩
   ·cases q
  ·cases q
 ·split at q
  ·rename_i ids x A hp;split at q
   ·rename_i hk;simp only[Option.some.injEq]at q;subst q;obtain⟨σ',J,M,N⟩:=key D hp hk;exact⟨σ',hu,J,M,N⟩
   ·cases q
  ·cases q
theorem Zgt (Q:DV E) (hP:E.P=P) (z:KA P E B w0 call) (D:PV E call) {k:Nat} {Z:St->V×Heap->Prop} {F:V×Heap->Act->World->Prop} {σ0:Sg} {ws:World}
  (Y:∀st r σ a w,Z st r->FU E B w0 σ st a w->QD k σ0 ws σ w->F r a w) {ctl:Yq} {K:List Fr} {st:St} {r:V×Heap} (h:Dj call E f fn k Z ctl K st r) :
  jY E f ctl=true->Nu E f K=true->∀(σ:Sg) (a:Act) (w:World),FU E B w0 σ st a w->QD k σ0 ws σ w->Z5I P (F r) K a w ctl:=by
 induction h with
 | skip h q=>intro hc hk σ a w hr hf;exact wp_skip (q rfl hk σ a w hr hf)
 | region hs h q=>
  intro hc hk σ a w hr hf;exact wp_region (Zgp Q hP z _ _ σ a w hr hs (fun M w' σ' G C =>q rfl hk σ' M w' G (hf.trans C)))
 | draw A hs h q=>
  intro hc hk σ a w hr hf;refine ZgO Q hP (by rw[<- hP];exact Q.mix) z D ?_ hr hs (fun M w' σ' G C =>q rfl hk σ' M w' G (hf.trans C));simpa[jY,Ef,A]using hc
 | seq h q=>
  intro hc hk σ a w hr hf;simp only[jY,Ef,Bool.and_eq_true]at hc;exact wp_seq (q hc.1 (by simp[Nu,hc.2,hk]) σ a w hr hf)
 | cond N h q=>
  rename_i c x y t K st r;intro hc hk σ a w hr hf;simp only[jY,Ef,Bool.and_eq_true]at hc;have hv:=En (a:=a) hr.Ey hr.slots c;rw[N]at hv;have hb:a.eval c = .bool t:=by generalize a.eval c=v at hv;cases hv;rfl
  refine wp_cond hb ?_;refine q ?_ hk σ a w hr hf;cases t
  ·exact hc.2
  ·exact hc.1
 | block h q=>
  intro hc hk σ a w hr hf;exact wp_block (q hc hk σ a w hr hf)
 | loop h q=>
  intro hc hk σ a w hr hf;simp only[jY,Ef]at hc;exact(LoopIn.of (q hc (by simp[Nu,hc,hk]) σ a w hr hf)).wp
 | scope h q=>
  intro hc hk σ a w hr hf;have O:=q hc hk σ a w hr hf;refine wp_scope_straight (wp_mono O fun e M w' hq=>?_);cases e with
  | goto l=>exact(xH _ hq).elim
  | _=>exact hq
 | label h q=>intro hc hk σ a w hr hf;exact wp_label (q rfl hk σ a w hr hf)
 | exit h q=>intro hc hk σ a w hr hf;exact wp_exit (q rfl hk σ a w hr hf)
 | ret h q=>intro hc hk σ a w hr hf;exact wp_ret (q rfl hk σ a w hr hf)
 | nseq h q=>
  intro hc hk σ a w hr hf;simp only[Nu,Bool.and_eq_true]at hk;exact q hk.1 hk.2 σ a w hr hf
 | nblk h q=>intro hc hk σ a w hr hf;exact q rfl hk σ a w hr hf
 | Zi7 h q=>
  intro hc hk σ a w hr hf;have I :=hk;simp only[Nu,Bool.and_eq_true]at I;exact LoopIn.of (q I.1 hk σ a w hr hf)
 | eseq h q=>
  intro hc hk σ a w hr hf;simp only[Nu,Bool.and_eq_true]at hk;exact q rfl hk.2 σ a w hr hf
 | ZhM h q=>
  intro hc hk σ a w hr hf;simp only[Nu,Bool.and_eq_true]at hk;exact q rfl hk.2 σ a w hr hf
 | eblk h q=>
  intro hc hk σ a w hr hf;have:=q rfl hk σ a w hr hf;simp only[Z5I,QK,Exit.inBlock,if_true];exact this
 | ZhZ S h q=>
  intro hc hk σ a w hr hf;have:=q rfl hk σ a w hr hf;simp only[Z5I,QK,Exit.inBlock,S,if_false];exact this
 | rany h q=>
  rename_i x K st r;intro hc hk σ a w hr hf;have:Nu E f K=true:=by cases x<;>simp_all [Nu]
  have:=q rfl this σ a w hr hf;cases x<;>exact this
 | finN hz=>intro hc hk σ a w hr hf;exact Y _ _ σ a w hz hr hf
 | finR hz=>intro hc hk σ a w hr hf;exact Y _ _ σ a w hz hr hf
 | tidy N h q=>intro hc hk σ a w hr hf;exact q hc hk _ a w (ZDn N hr) (hf.ren N.pre)
 | ZhL hp J h q=>
  intro hc hk σ a w hr hf;obtain⟨σ1,O,h2⟩:=ZBU hp hr;exact q hc hk _ a w h2 ((hf.trans O).ren J)
end
end Go.Proofs.YtjodhcdmhobmoaaGreatDoor.Le
namespace Go.Proofs.YtjodhcdmhobmoaaGreatDoor.Le
open Go.RowKit (Below)
section
variable {U:DD}
def YB:List Bool->Bool
 | []=>true
 | [b]=>b
 | b::q=>b&&YB q
theorem Zdr:∀{l:List Bool},YB l=true->∀b∈l,b=true:=by
 intro l;induction l with
 | nil=>simp_all
 | cons x xs q=>
  intro h b hb;cases xs with
  | nil=>simp only[YB]at h;simp only[List.mem_singleton]at hb;rw[hb];exact h
  | cons y ys=>
   simp only[YB,Bool.and_eq_true]at h
   grind
def resT (E:Env) (H:BF U) (s:List (SV U.Ty)):ResultVar->Tr U (SV U.Ty)
 | .tmp t=>.leaf (s.getD t .und)
 | .cell a t=>loadT E H t (s.getD a .und)
def YR (E:Env) (H:BF U) (s:List (SV U.Ty)):List ResultVar->Tr U (List (SV U.Ty))
 | []=>.leaf []
 | r::rs=>(resT E H s r).andThen fun v=>(YR E H s rs).andThen fun vs=>.leaf (v::vs)
def VQ:List Nat->List (SV U.Ty)->Option (List (SV U.Ty))
 | [],[]=>some []
 | t::ts,w::ws=>match U.IE t w,VQ ts ws with|some a,some r=>some (U.encS t a::r)|_,_=>none
 | _,_=>none
def Z5K (E:Env) (fn:Func) (st:Dw U):Tr U (SV U.Ty):=
 (YR E st.H st.s fn.results.toList).andThen fun vs=>
  match vs,fn.resultTypes.toList with
  | [v],[t]=>(Tm st.H v).andThen fun w=>(match U.IE t w with|some a=>.leaf (U.encS t a)|none=>.fail)
  | vs,ts=>.when (vs.length≠1) ((Qi st.H vs).andThen fun ws=>(match VQ ts ws with|some es=>.leaf (.BH es)|none=>.fail))
theorem Zfw {E:Env} (A:Du U E) {st:Dw U}:∀{rs:List ResultVar} {vs:List (SV U.Ty)},(YR E st.H st.s rs).AZ vs->rs.mapM (resD E (DI U st).H (DI U st).s)=some (Aw U vs):=by
 intro rs;induction rs with
 | nil=>intro vs h;simp only[YR,Tr.AZ]at h;subst h;rfl
 | cons r rs C=>
  intro vs h;simp only[YR,E8,Tr.AZ]at h;obtain⟨v,q,ws,z,rfl⟩:=h;have hr:resD E (DI U st).H (DI U st).s r=some (AY U v):=by
   cases r with
   | tmp t=>
    simp only[resT,Tr.AZ]at q;subst q;exact congrArg some (Xg st.s t)
   | cell a t=>
    simp only[resD];rw[show (DI U st).s.getD a .und=AY U (st.s.getD a .und) from Xg st.s a];exact ZfO A q
  rw[List.mapM_cons,hr,C z];rfl
theorem Zz1 {E:Env} (q:Du U E):∀{ts:List Nat} {ws es:List (SV U.Ty)},VQ ts ws=some es->PO (ts.map E.rows) (Aw U ws)=Aw U es:=by
 intro ts;induction ts with
 | nil=>
  intro ws es h;cases ws with
  | nil=>simp only[VQ,Option.some.injEq]at h;subst h;rfl
  | cons=>simp[VQ]at h
 | cons t ts C=>
  intro ws es h;cases ws with
  | nil=>simp[VQ]at h
  | cons w ws=>
   simp only[VQ]at h;split at h
   ·rename_i a r z A;simp only[Option.some.injEq]at h;subst h;simp only[List.map_cons,Aw,PO,q.dec _ _ _ z,q.encS,C A]
   ·cases h
theorem ZDj {H:Heap} {x y:V} (h:Ic H x=some y):∀vs,y≠.BH vs:=by
 intro vs q;subst q;unfold Ic at h;split at h
 ·simp_all
 ·unfold Ia at h
  grind
theorem ZBO {E:Env} (z:Du U E) {fn:Func} {st:Dw U} {v:SV U.Ty} (h:(Z5K E fn st).AZ v) :
  ∃G I,MK E (DI U st).H (DI U st).s fn.results.toList=some G/\KG (DI U st).H G=some I/\TA (fn.resultTypes.toList.map E.rows) I=AY U v:=by
 unfold Z5K at h;simp only[E8]at h;obtain⟨vs,M,h⟩:=h;have hm:=Zfw z M;split at h
 ·rename_i J t D;simp only[E8]at h;obtain⟨w,A,h⟩:=h;split at h
  ·rename_i a N;simp only[Tr.AZ]at h;subst h;have hf:Ic (DI U st).H (AY U J)=some (AY U w):=xX A;refine⟨AY U J,AY U w,by simp only[MK,hm,Aw],?_,?_⟩
   ·unfold KG;split
    ·rename_i us q;rw[q]at hf;simp[Ic,Ia]at hf
    ·exact hf
   ·rw[D];unfold TA;split
    ·rename_i us q;exact absurd q (ZDj hf us)
    ·simp only[List.map_cons,List.headD_cons,z.dec _ _ _ N,z.encS]
  ·simp[Tr.AZ]at h
 ·rename_i O vs ts F;simp only[Em,E8]at h;obtain⟨hl,ws,A,h⟩:=h;split at h
  ·rename_i es C;simp only[Tr.AZ]at h;subst h;refine⟨.BH (Aw U O),.BH (Aw U ws),?_,?_,?_⟩
   ·simp only[MK,hm];split
    ·rename_i x hx;simp only[Option.some.injEq]at hx;exfalso;apply hl;have:=congrArg List.length hx;rw[Jh]at this;simpa using this
    ·simp_all
    simp_all
   ·simp only[KG,DI,Z3v A,Option.map_some]
   ·simp only[TA,Zz1 z C,AY]
  ·simp[Tr.AZ]at h
def lL (E:Env) (fn:Func) (st:Dw U):Tr U (SV U.Ty×BF U):=(Z5K E fn st).andThen fun v=>.leaf (v,[])
def Z5J (E:Env) (fn:Func) (fa:List (List Fk)) (fb:List Bf) (k:Nat) (st:Dw U):Tr U (SV U.Ty×BF U):=
 (YR E st.H st.s fn.results.toList).andThen fun vs=>
  match vs with
  | [.BH _]=>.fail
  | [.raw _]=>.fail
  | [v]=>(YX fa fb k [v] st.H).andThen fun r=>(match r.2.1 with
   | [a]=>.when (r.1.take k=List.range k) (.leaf (GL (r.1.idxOf ·) a,YM r.2.2 r.1))
   | _=>.fail)
  | vs=>.when (vs.length≠1) ((YX fa fb k vs st.H).andThen fun r=>.when (r.1.take k=List.range k) (.leaf (.BH (Oa (r.1.idxOf ·) r.2.1),YM r.2.2 r.1)))
theorem ZBm {E:Env} (D:Du U E) {fn:Func} {st:Dw U} {r:SV U.Ty×BF U} (h:(lL E fn st).AZ r):Zp E fn (DI U st) (AY U r.1,BN U r.2):=by
 simp only[lL,E8,Tr.AZ]at h;obtain⟨v,C,rfl⟩:=h;obtain⟨F,G,q,z,A⟩:=ZBO D C;exact⟨F,G,q,z,by rw[A];rfl⟩
theorem ZBW {E:Env} (I:Du U E) {fn:Func} {fa:List (List Fk)} {fb:List Bf} {k:Nat} {st:Dw U} {r:SV U.Ty×BF U} (h:(Z5J E fn fa fb k st).AZ r):Zh E fn fa fb k (DI U st) (AY U r.1,BN U r.2):=by
 simp only[Z5J,E8]at h;obtain⟨vs,G,h⟩:=h;have hm:=Zfw I G;split at h
 ·simp[Tr.AZ]at h
 ·simp[Tr.AZ]at h
 ·rename_i v A C;simp only[E8]at h;obtain⟨p,hp,h⟩:=h;split at h
  ·rename_i a J;simp only[Em,Tr.AZ]at h;obtain⟨hk,rfl⟩:=h;have q :=wU hp;rw[J]at q;refine⟨AY U v,by simp only[MK,hm,Aw],?_⟩;have D:∀cs,AY U v≠.BH cs:=by
    intro cs z;cases v with
    | BH vs=>exact A vs rfl
    | raw x=>exact C x rfl
    | _=>simp[AY]at z
   unfold zD;split
   ·rename_i cs z;exact absurd z (D cs)
   ·simp only[Aw]at q;simp only[DI,q];rw[if_pos hk,wR,vZ]
  ·simp[Tr.AZ]at h
 ·rename_i F;simp only[Em,E8,Tr.AZ]at h;obtain⟨hl,p,hp,hk,rfl⟩:=h;have q :=wU hp;refine⟨.BH (Aw U vs),?_,?_⟩
  ·simp only[MK,hm];split
   ·rename_i x hx;simp only[Option.some.injEq]at hx;exfalso;apply hl;have:=congrArg List.length hx;rw[Jh]at this;simpa using this
   ·simp_all
   simp_all
  ·simp only[zD,DI,q];rw[if_pos hk,vZ];simp only[AY,Q5]
inductive Y3 (U:DD) where
 | done (v:SV U.Ty×BF U)
 | jump (c:Code) (K:List Fr) (st:Dw U)
def ZCw (call:EM) (E:Env) (f:FuncId) (fn:Func) (q:Nat) (Z:St->V×Heap->Prop):Y3 U->V×Heap->Prop
 | .done s,v=>v=(AY U s.1,BN U s.2)
 | .jump c K st,v=>Dj call E f fn q Z (.run c) K (DI U st) v
end
end Go.Proofs.YtjodhcdmhobmoaaGreatDoor.Le
namespace Go.Proofs.YtjodhcdmhobmoaaGreatDoor.Le
inductive Pc where
 | v (t n:Nat) (agg:Bool)
 | own (e j:Nat)
 | ptr (j:Nat)
 | fn (f:FuncId) (a b:List Nat)
 | no
 | und
 | nC (ptr:Bool)
inductive Sp where
 | one (c:Pc)
 | agg (cs:List Pc)
inductive Pb where
 | var (e m:Nat) (p:Sp)
 | row (t:Nat) (fresh:Bool)
structure Shape where
 args:List Sp
 boxes:List Pb
abbrev Sp.cells:Sp->List Pc
 | .one c=>[c]
 | .agg cs=>cs
section
variable (U:DD)
@[reducible] def PX:List Pc->Type
 | []=>Unit
 | .v t _ _::ps=>U.Ty t×PX ps
 | _::ps=>PX ps
@[reducible] def AX:List Sp->Type
 | []=>Unit
 | p::ps=>PX U p.cells×AX ps
@[reducible] def BX:List Pb->Type
 | []=>Unit
 | .var _ _ p::q=>PX U p.cells×BX q
 | .row t _::q=>List (U.Ty t)×BX q
@[reducible] def Shape.X (s:Shape):Type:=AX U s.args×BX U s.boxes
variable {U}
def Jr:(q:List Pb)->BX U q->List Nat
 | [],_=>[]
 | .var _ _ _::q,x=>1::Jr q x.2
 | .row _ _::q,x=>x.1.length::Jr q x.2
def lX (j:Nat):SV U.Ty:=.ptr j 0 0 1
def nulS:Bool->SV U.Ty
 | true=>.lit (.pointer none)
 | false=>.lit .nilFunc
def Z5z:Bool->SV U.Ty->Bool
 | true,.lit (.pointer none)=>true
 | false,.lit .nilFunc=>true
 | _,_=>false
theorem ZB7 {b:Bool} {c:SV U.Ty} (h:Z5z b c=true):c=nulS b:=by
 unfold Z5z at h;split at h<;>first|rfl|cases h
def Ea (ls:List Nat):(ps:List Pc)->PX U ps->List (SV U.Ty)
 | [],_=>[]
 | .v t _ _::ps,x=>cellsS (U.encS t x.1)++Ea ls ps x.2
 | .own _ j::ps,x=>.all j (ls.getD j 0)::Ea ls ps x
 | .ptr j::ps,x=>lX j::Ea ls ps x
 | .fn f a b::ps,x=>.fn f (a.map lX) (b.map lX)::Ea ls ps x
 | .no::ps,x=>.no::Ea ls ps x
 | .und::ps,x=>.und::Ea ls ps x
 | .nC b::ps,x=>nulS b::Ea ls ps x
def J6 (ls:List Nat):(p:Sp)->PX U p.cells->SV U.Ty
 | .one c,x=>(Ea ls [c] x).headD .und
 | .agg cs,x=>.agg (Ea ls cs x)
def KJ (ls:List Nat):(ps:List Sp)->AX U ps->List (SV U.Ty)
 | [],_=>[]
 | p::ps,x=>J6 ls p x.1::KJ ls ps x.2
def Ib (ls:List Nat):(q:List Pb)->BX U q->BF U
 | [],_=>[]
 | .var e m p::q,x=>.var e m (J6 ls p x.1)::Ib ls q x.2
 | .row t fresh::q,x=>.row t x.1 (if fresh then none else some x.1.length)::Ib ls q x.2
def Shape.enc (s:Shape) (x:s.X U):List (SV U.Ty)×BF U:=(KJ (Jr s.boxes x.2) s.args x.1,Ib (Jr s.boxes x.2) s.boxes x.2)
def Qn:SV U.Ty->Bool
 | .nil _ | .raw _ | .agg _ | .BH _ | .Om _ | .Vo ..=>false
 | _=>true
def VW:List Nat->List (SV U.Ty)->Bool
 | [],[]=>true
 | j::q,.ptr i a b c::xs=>decide (i=j/\a=0/\b=0/\c=1)&&VW q xs
 | _,_=>false
def YY (H:BF U):List Nat:=H.map fun b=>match b with | .row _ xs _=>xs.length|_=>1
def GN (ls:List Nat):(ps:List Pc)->List (SV U.Ty)->Option (PX U ps×List Bool)
 | [],cs=>if cs.isEmpty then some ((),[]) else none
 | .v t n true::ps,cs=>if (cs.take n).length=n/\(cs.take n).all Qn=true then
   (match U.IE t (.agg (cs.take n)),GN ls ps (cs.drop n) with
    | some a,some r=>some ((a,r.1),r.2)
    | _,_=>none) else none
 | .v t _ false::ps,c::cs=>if Qn c then
   (match U.IE t c,GN ls ps cs with
    | some a,some r=>some ((a,r.1),r.2)
    | _,_=>none) else none
 | .own _ j::ps,.all i n::cs=>if i=j then (GN ls ps cs).map fun r=>(r.1,(ls.getD j 0==n)::r.2) else none
 | .ptr j::ps,.ptr i a b c::cs=>if i=j/\a=0/\b=0/\c=1 then GN ls ps cs else none
 | .fn f a b::ps,.fn g q z :: cs=>if g=f/\VW a q = true/\VW b z = true then GN ls ps cs else none
 | .no::ps,.no::cs=>GN ls ps cs
 | .und::ps,.und::cs=>GN ls ps cs
 | .nC b::ps,c::cs=>if Z5z b c=true then GN ls ps cs else none
 | _::_,_=>none
def zK (ls:List Nat):(p:Sp)->SV U.Ty->Option (PX U p.cells×List Bool)
 | .one c,x=>GN ls [c] [x]
 | .agg cs,.agg xs=>GN ls cs xs
 | _,_=>none
def Y0 (ls:List Nat):(ps:List Sp)->List (SV U.Ty)->Option (AX U ps×List Bool)
 | [],[]=>some ((),[])
 | p::ps,x::xs=>(match zK ls p x,Y0 ls ps xs with
  | some a,some r=>some ((a.1,r.1),a.2++r.2)
  | _,_=>none)
 | _,_=>none
def Tn (ls:List Nat):(q:List Pb)->BF U->Option (BX U q×List Bool)
 | [],[]=>some ((),[])
 | .var e m p::q,.var z A x::H=>if z = e/\A = m then
   (match zK ls p x,Tn ls q H with
    | some a,some r=>some ((a.1,r.1),a.2++r.2)
    | _,_=>none) else none
 | .row t fresh::q,.row C xs fl::H=>if h:C = t then
   (match fresh,fl,Tn ls q H with
    | true,none,some r=>some ((h▸xs,r.1),r.2)
    | false,some n,some r=>some ((h▸xs,r.1),(n==xs.length)::r.2)
    | _,_,_=>none) else none
 | _,_=>none
def Shape.dec (s:Shape) (as:List (SV U.Ty)) (H:BF U):Option (s.X U×List Bool):=
 match Y0 (YY H) s.args as,Tn (YY H) s.boxes H with
 | some a,some b=>some ((a.1,b.1),a.2++b.2)
 | _,_=>none
theorem ZaW {x:SV U.Ty} (h:Qn x=true) (e:Nat):Gt e (AY U x)=AY U x:=by
 cases x<;>simp_all [Qn,AY,Gt]
theorem ZsR {x:SV U.Ty} (h:Qn x=true):(AY U x).cells=[AY U x]:=by
 cases x<;>first|rfl|(simp[Qn]at h)
theorem Zw0 {x:SV U.Ty} (h:Qn x=true):∀cs,AY U x≠.agg cs:=by
 intro cs hc;cases x<;>first|(cases hc;done)|(simp[Qn]at h)
theorem Zsu:∀{xs:List (SV U.Ty)},xs.all Qn=true->∀es,Gg es (Aw U xs)=Aw U xs:=by
 intro xs;induction xs with
 | nil=>intro _ es;cases es<;>rfl
 | cons x xs q=>
  intro h es;simp only[List.all_cons,Bool.and_eq_true]at h;cases es with
  | nil=>rfl
  | cons e es=>simp only[Aw,Gg,ZaW h.1,q h.2]
theorem SS (xs ys:List (SV U.Ty)):Aw U (xs++ys)=Aw U xs++Aw U ys:=by simp[FH]
theorem Zfn:∀{q:List Nat} {xs:List (SV U.Ty)},VW q xs=true->xs=q.map lX:=by
 intro q;induction q with
 | nil=>intro xs h;cases xs with
  | nil=>rfl
  | cons=>simp[VW]at h
 | cons j q A=>
  intro xs h;cases xs with
  | nil=>simp[VW]at h
  | cons x xs=>
   cases x<;>simp[VW]at h;obtain⟨⟨rfl,rfl,rfl,rfl⟩,z⟩:=h;rw[A z];rfl
theorem Zgg {E:Env} (F:Du U E) (ls:List Nat):∀(ps:List Pc) {cs:List (SV U.Ty)} {r:PX U ps×List Bool},GN ls ps cs=some r->(∀b∈r.2,b=true)->Aw U cs=Aw U (Ea ls ps r.1):=by
 intro ps;induction ps with
 | nil=>
  intro cs r h _;simp only[GN]at h;split at h
  ·rename_i hc;cases cs with
   | nil=>rfl
   | cons=>simp at hc
  ·cases h
 | cons p ps z=>
  intro cs r h hb;cases p with
  | v t n N=>
   cases N with
   | true=>
    simp only[GN]at h;split at h
    ·rename_i hc;split at h
     ·rename_i a M D C;simp only[Option.some.injEq]at h;subst h;have e:=F.dec t _ a D;simp only[AY,ES]at e;rw[Zsu hc.2]at e;have A:=F.cells t a;rw[<- e]at A;simp only[V.cells]at A;simp only[Ea,SS,<- A,<- z C hb];rw[<- SS,List.take_append_drop]
     ·cases h
    ·cases h
   | false=>
    cases cs with
    | nil=>simp[GN]at h
    | cons c cs=>
     simp only[GN]at h;split at h
     ·rename_i hc;split at h
      ·rename_i a M D C;simp only[Option.some.injEq]at h;subst h;have e:=F.dec t _ a D;have hr:∀es,ES es (AY U c)=AY U c:=by
        intro es;unfold ES;split
        ·rename_i I J;exact absurd J (Zw0 hc I)
        ·exact ZaW hc _
       rw[hr]at e;have A:=F.cells t a;rw[<- e]at A;rw[ZsR hc]at A;simp only[Ea,SS,<- A,<- z C hb];rfl
      ·cases h
     ·cases h
  | own e j=>
   cases cs with
   | nil=>simp[GN]at h
   | cons c cs=>
    cases c<;>simp only[GN]at h<;>try (cases h;done)
    split at h
    ·rename_i q;subst q;simp only[Option.map_eq_some_iff]at h;obtain⟨M,C,rfl⟩:=h;have G:=hb _ (List.mem_cons_self ..);simp only[beq_iff_eq]at G;simp only[Ea,Aw,AY,G,z C (fun b O=>hb b (by simp[O]))]
    ·cases h
  | ptr j=>
   cases cs with
   | nil=>simp[GN]at h
   | cons c cs=>
    cases c<;>simp only[GN]at h<;>try (cases h;done)
    split at h
    ·rename_i q;obtain⟨rfl,rfl,rfl,rfl⟩:=q;simp only[Ea,Aw,lX,z h hb]
    ·cases h
  | fn f a b=>
   cases cs with
   | nil=>simp[GN]at h
   | cons c cs=>
    cases c<;>simp only[GN]at h<;>try (cases h;done)
    split at h
    ·rename_i q;obtain⟨rfl,D,C⟩:=q;rw[Zfn D,Zfn C];simp only[Ea,Aw,z h hb]
    ·cases h
  | no=>
   cases cs with
   | nil=>simp[GN]at h
   | cons c cs=>
    cases c<;>simp only[GN]at h<;>try (cases h;done)
    simp only[Ea,Aw,z h hb]
  | und=>
   cases cs with
   | nil=>simp[GN]at h
   | cons c cs=>
    cases c<;>simp only[GN]at h<;>try (cases h;done)
    simp only[Ea,Aw,z h hb]
  | nC b=>
   cases cs with
   | nil=>simp[GN]at h
   | cons c cs=>
    simp only[GN]at h;split at h
    ·rename_i G;rw[ZB7 G];simp only[Ea,Aw,z h hb]
    ·cases h
theorem ZfU {E:Env} (q:Du U E) (ls:List Nat) {p:Sp} {x:SV U.Ty} {r:PX U p.cells×List Bool} (h:zK ls p x=some r) (hb:∀b∈r.2,b=true):AY U x=AY U (J6 ls p r.1):=by
 cases p with
 | one c=>
  have:=Zgg q ls [c] h hb;simp only[Aw]at this;cases hp:Ea ls [c] r.1 with
  | nil=>rw[hp]at this;cases this
  | cons y ys=>
   rw[hp]at this;simp only[Aw,List.cons.injEq]at this;simp only[J6]
   simp_all
 | agg cs=>
  cases x<;>simp only[zK]at h<;>try (cases h;done)
  have:=Zgg q ls cs h hb;simp only[J6,AY,this]
theorem ZEc {E:Env} (C:Du U E) (ls:List Nat):∀(ps:List Sp) {cs:List (SV U.Ty)} {r:AX U ps×List Bool},Y0 ls ps cs=some r->(∀b∈r.2,b=true)->Aw U cs=Aw U (KJ ls ps r.1):=by
 intro ps;induction ps with
 | nil=>
  intro cs r h _;cases cs with
  | nil=>rfl
  | cons=>simp[Y0]at h
 | cons p ps D=>
  intro cs r h hb;cases cs with
  | nil=>simp[Y0]at h
  | cons c cs=>
   simp only[Y0]at h;split at h
   ·rename_i a F z A;simp only[Option.some.injEq]at h;subst h;simp only[KJ,Aw,ZfU C ls z (fun b q=>hb b (by simp[q])),D A (fun b q=>hb b (by simp[q]))]
   ·cases h
theorem ZDR {E:Env} (N:Du U E) (ls:List Nat):∀(q:List Pb) {H:BF U} {r:BX U q×List Bool},Tn ls q H=some r->(∀b∈r.2,b=true)->BN U H=BN U (Ib ls q r.1)/\Jr q r.1=YY H:=by
 intro q;induction q with
 | nil=>
  intro H r h _;cases H with
  | nil=>exact⟨rfl,rfl⟩
  | cons=>simp[Tn]at h
 | cons b q F=>
  intro H r h hb;cases H with
  | nil=>cases b<;>simp[Tn]at h
  | cons x H=>
   cases b with
   | var e m p=>
    cases x<;>simp only[Tn]at h<;>try (cases h;done)
    split at h
    ·rename_i O;obtain⟨rfl,rfl⟩:=O;split at h
     ·rename_i a I M C;simp only[Option.some.injEq]at h;subst h;obtain⟨z,A⟩:=F C (fun b D=>hb b (by simp[D]));have J:=ZfU N ls M (fun b D=>hb b (by simp[D]));refine⟨?_,?_⟩
      ·simp only[BN,Ib,List.map_cons,DF,J];exact congrArg _ z
      ·simp only[Jr,YY,List.map_cons,A]
     ·cases h
    ·cases h
   | row t fresh=>
    cases x<;>simp only[Tn]at h<;>try (cases h;done)
    rename_i S xs fl;split at h
    ·rename_i Q;subst Q;split at h
     ·rename_i I C;simp only[Option.some.injEq]at h;subst h;obtain⟨z,A⟩:=F C hb;refine⟨?_,?_⟩
      ·simp only[BN,Ib,List.map_cons,if_true];exact congrArg _ z
      ·simp only[Jr,YY,List.map_cons,A]
     ·rename_i n I C;simp only[Option.some.injEq]at h;subst h;obtain⟨z,A⟩:=F C (fun b D=>hb b (by simp[D]));have G:=hb _ (List.mem_cons_self ..);simp only[beq_iff_eq]at G;refine⟨?_,?_⟩
      ·simp only[BN,Ib,List.map_cons,Bool.false_eq_true,if_false,DF,G];exact congrArg _ z
      ·simp only[Jr,YY,List.map_cons,A]
     ·cases h
    ·cases h
theorem Shape.y8 {E:Env} (z:Du U E) {s:Shape} {as:List (SV U.Ty)} {H:BF U} {r:s.X U×List Bool} (h:s.dec as H=some r) (hb:∀b∈r.2,b=true):Aw U as=Aw U (s.enc r.1).1/\BN U H=BN U (s.enc r.1).2:=by
 unfold Shape.dec at h;split at h
 ·rename_i a b F G;simp only[Option.some.injEq]at h;subst h;obtain⟨A,C⟩:=ZDR z _ _ G (fun b q=>hb b (by simp[q]));have D:=ZEc z _ _ F (fun b q=>hb b (by simp[q]));simp only[Shape.enc,C];exact⟨D,A⟩
 ·cases h
variable (U)
def Z5:Pc->Prop
 | .v t n true=>t∈U.keys/\∀a,∃cs,U.encS t a = .agg cs/\cs.length=n
 | .v t n false=>t∈U.keys/\∀a,cellsS (U.encS t a)=[U.encS t a]
 | _=>True
def zX:List Pc->Prop
 | []=>True
 | p::ps=>Z5 U p/\zX ps
def zY:Sp->Prop
 | .one (.v _ _ true)=>False
 | .one c=>Z5 U c
 | .agg cs=>zX U cs
def Za:List Sp->Prop
 | []=>True
 | p::ps=>zY U p/\Za ps
def lW:List Pb->Prop
 | []=>True
 | .var _ _ p::q=>zY U p/\lW q
 | .row t _::q=>t∈U.keys/\lW q
def Shape.OK (s:Shape):Prop:=Za U s.args/\lW U s.boxes
variable {U}
def Yh (k1:List Nat) (q:List (Nat×Nat)):Pc->Bool
 | .v t n true=>q.contains (t,n)
 | .v t _ false=>k1.contains t
 | _=>true
def Zq (k1:List Nat) (q:List (Nat×Nat)):Sp->Bool
 | .one (.v _ _ true)=>false
 | .one c=>Yh k1 q c
 | .agg cs=>cs.all (Yh k1 q)
def pbB (U:DD) (k1:List Nat) (q:List (Nat×Nat)):Pb->Bool
 | .var _ _ p=>Zq k1 q p
 | .row t _=>U.keys.contains t
def shB (U:DD) (k1:List Nat) (q:List (Nat×Nat)) (s:Shape):Bool:=s.args.all (Zq k1 q)&&s.boxes.all (pbB U k1 q)
theorem Shape.ok_of {k1:List Nat} {z:List (Nat×Nat)} (J:∀t∈k1,t∈U.keys/\∀a,cellsS (U.encS t a)=[U.encS t a]) (M:∀p∈z,p.1∈U.keys/\∀a,∃cs,U.encS p.1 a = .agg cs/\cs.length=p.2) {s:Shape} (h:shB U k1 z s=true):s.OK U:=by
 have hp:∀c,Yh k1 z c=true->Z5 U c:=by
  intro c hc;cases c with
  | v t n D=>cases D with
   | true=>exact M (t,n) (by simpa[Yh]using hc)
   | false=>exact J t (by simpa[Yh]using hc)
  | _=>trivial
 have I:∀cs:List Pc,cs.all (Yh k1 z)=true->zX U cs:=by
  intro cs;induction cs with
  | nil=>intro _;trivial
  | cons c cs A=>intro h;simp only[List.all_cons,Bool.and_eq_true]at h;exact⟨hp c h.1,A h.2⟩
 have C:∀p,Zq k1 z p=true->zY U p:=by
  intro p G;cases p with
  | agg cs=>exact I cs G
  | one c=>cases c with
   | v t n D=>cases D with
    | true=>cases G
    | false=>exact hp (.v t n false) G
   | _=>trivial
 have has:∀l:List Sp,l.all (Zq k1 z)=true->Za U l:=by
  intro l;induction l with
  | nil=>intro _;trivial
  | cons p l A=>intro h;simp only[List.all_cons,Bool.and_eq_true]at h;exact⟨C p h.1,A h.2⟩
 have F:∀l:List Pb,l.all (pbB U k1 z)=true->lW U l:=by
  intro l;induction l with
  | nil=>intro _;trivial
  | cons p l A=>
   intro h;simp only[List.all_cons,Bool.and_eq_true]at h;cases p with
   | var e m q=>exact⟨C q h.1,A h.2⟩
   | row t N=>exact⟨by simpa[pbB]using h.1,A h.2⟩
 unfold shB at h;rw[Bool.and_eq_true]at h;exact⟨has _ h.1,F _ h.2⟩
theorem Zg6 {E:Env} (A:Du U E) {ls ls' : List Nat}:∀{ps:List Pc} {x y:PX U ps},zX U ps->Aw U (Ea ls ps x)=Aw U (Ea ls' ps y)->x=y:=by
 intro ps;induction ps with
 | nil=>intro x y _ _;rfl
 | cons p ps z=>
  intro x y hk h;obtain⟨hp,hk⟩:=hk;cases p with
  | v t n F=>
   obtain⟨a,J⟩:=x;obtain⟨b,M⟩:=y;simp only[Ea,SS]at h;have key:Aw U (cellsS (U.encS t a))=Aw U (cellsS (U.encS t b))/\Aw U (Ea ls ps J)=Aw U (Ea ls' ps M)/\U.enc t a=U.enc t b/\t∈U.keys:=by
    cases F with
    | true=>
     obtain⟨hm,hl⟩:=hp;obtain⟨N,C,I⟩:=hl a;obtain⟨O,D,lb⟩:=hl b;have:=List.append_inj h (by rw[Jh,Jh,C,D];simp only[cellsS,I,lb]);refine⟨this.1,this.2,?_,hm⟩;rw[<- A.encS,<- A.encS,C,D];have q:=this.1;rw[C,D]at q;simp only[cellsS]at q;simp only[AY,q]
    | false=>
     obtain⟨hm,hl⟩:=hp;have:=List.append_inj h (by simp_all;rfl);refine⟨this.1,this.2,?_,hm⟩;have q:=this.1;rw[hl a,hl b]at q;simp only[Aw,List.cons.injEq,and_true,A.encS]at q;exact q
   obtain⟨_,Q,G,hm⟩:=key;have S:=A.inj t hm a b G
   grind
  | own e j=>
   simp only[Ea,Aw,List.cons.injEq]at h;exact z hk h.2
  | ptr j=>
   simp only[Ea,Aw,List.cons.injEq]at h;exact z hk h.2
  | fn f a b=>
   simp only[Ea,Aw,List.cons.injEq]at h;exact z hk h.2
  | no=>
   simp only[Ea,Aw,List.cons.injEq]at h;exact z hk h.2
  | und=>
   simp only[Ea,Aw,List.cons.injEq]at h;exact z hk h.2
  | nC b=>
   simp only[Ea,Aw,List.cons.injEq]at h;exact z hk h.2
theorem ZeP {E:Env} (z:Du U E) {ls ls' : List Nat} {p:Sp} {x y:PX U p.cells} (hk:zY U p) (h:AY U (J6 ls p x)=AY U (J6 ls' p y)):x=y:=by
 cases p with
 | one c=>
  cases c with
  | v t n A=>
   cases A with
   | true=>exact hk.elim
   | false=>
    obtain⟨a,C⟩:=x;obtain⟨b,D⟩:=y;have q : Z5 U (.v t n false):=hk;refine Zg6 z (ps:=[.v t n false]) ⟨q,trivial⟩ (ls:=ls) (ls' :=ls') ?_;simp only[J6,Ea,q.2,List.append_nil,List.headD_cons]at h;simp only[Ea,q.2,List.append_nil,Aw,h]
  | own e j=>simp_all
  | ptr j=>rfl
  | fn f a b=>rfl
  | no=>rfl
  | und=>rfl
  | nC b=>rfl
 | agg cs=>
  simp only[J6,AY,V.agg.injEq]at h;exact Zg6 z hk h
theorem ZBh {E:Env} (q:Du U E) {ls ls' : List Nat}:∀{ps:List Sp} {x y:AX U ps},Za U ps->Aw U (KJ ls ps x)=Aw U (KJ ls' ps y)->x=y:=by
 intro ps;induction ps with
 | nil=>intro x y _ _;rfl
 | cons p ps z=>
  intro x y hk h;obtain⟨a,A⟩:=x;obtain⟨b,C⟩:=y;simp only[KJ,Aw,List.cons.injEq]at h;rw[ZeP q hk.1 h.1,z hk.2 h.2]
theorem Zvc {E:Env} (q:Du U E) {t:Nat} (z:t∈U.keys):∀{xs ys:List (U.Ty t)},xs.map (U.enc t)=ys.map (U.enc t)->xs=ys:=by
 intro xs;induction xs with
 | nil=>intro ys h;cases ys with
  | nil=>rfl
  | cons=>cases h
 | cons x xs A=>
  intro ys h;cases ys with
  | nil=>cases h
  | cons y ys=>
   simp only[List.map_cons,List.cons.injEq]at h;rw[q.inj t z x y h.1,A h.2]
theorem ZC4 {E:Env} (z:Du U E) {ls ls' : List Nat}:∀{q:List Pb} {x y:BX U q},lW U q->BN U (Ib ls q x)=BN U (Ib ls' q y)->x=y:=by
 intro q;induction q with
 | nil=>intro x y _ _;rfl
 | cons b q A=>
  intro x y hk h;cases b with
  | var e m p=>
   obtain⟨a,C⟩:=x;obtain⟨b,D⟩:=y;simp only[Ib,BN,List.map_cons,List.cons.injEq,DF,CB,Box.mk.injEq,true_and,and_true]at h;rw[ZeP z hk.1 h.1,A hk.2 h.2]
  | row t fresh=>
   obtain⟨a,C⟩:=x;obtain⟨b,D⟩:=y;simp only[Ib,BN,List.map_cons,List.cons.injEq,DF,Box.mk.injEq,true_and]at h;rw[Zvc z hk.1 h.1.1,A hk.2 h.2]
theorem Shape.Zgy {E:Env} (A:Du U E) {s:Shape} (hk:s.OK U) {x y:s.X U} (C:Aw U (s.enc x).1=Aw U (s.enc y).1) (D:BN U (s.enc x).2=BN U (s.enc y).2):x=y:=by
 obtain⟨a,b⟩:=x;obtain⟨F,G⟩:=y;have z:=ZC4 A hk.2 D;simp only at z;subst z;have q:=ZBh A hk.1 C;simp only at q;rw[q]
variable (U)
structure HMod where
 fa:List (List Fk)
 fb:List Bf
 Dt:Shape
 KF:Shape
 one:Bool
 ky:Nat
 Oq:U.Ty ky->KF.X U
 fn:Dt.X U->Option (U.Ty ky)
 ok:Dt.OK U
variable {U}
def HMod.out (m:HMod U) (y:U.Ty m.ky):SV U.Ty×BF U:=((if m.one then (m.KF.enc (m.Oq y)).1.headD .und else .BH (m.KF.enc (m.Oq y)).1),(m.KF.enc (m.Oq y)).2)
open Classical in
noncomputable def HMod.spec (m:HMod U):YS where
 fa:=m.fa
 fb:=m.fb
 run:=fun as q=>if h:∃x:m.Dt.X U,Aw U (m.Dt.enc x).1=as/\BN U (m.Dt.enc x).2=q then (m.fn (Classical.choose h)).map fun y=>(AY U (m.out y).1,BN U (m.out y).2) else none
theorem HMod.ZB0 {E:Env} (q:Du U E) (m:HMod U) (x:m.Dt.X U):m.spec.run (Aw U (m.Dt.enc x).1) (BN U (m.Dt.enc x).2)=(m.fn x).map fun y=>(AY U (m.out y).1,BN U (m.out y).2):=by
 have h:∃y:m.Dt.X U,Aw U (m.Dt.enc y).1=Aw U (m.Dt.enc x).1/\BN U (m.Dt.enc y).2=BN U (m.Dt.enc x).2:=⟨x,rfl,rfl⟩;simp only[HMod.spec,dif_pos h];rw[Shape.Zgy q m.ok (Classical.choose_spec h).1 (Classical.choose_spec h).2]
def Z5s (m:HMod U) (as:List (SV U.Ty)) (H:BF U):Tr U (SV U.Ty×BF U):=
 (YX m.fa m.fb 0 as H).andThen fun r=>match m.Dt.dec (Oa (r.1.idxOf ·) r.2.1) (YM r.2.2 r.1) with
  | some x=>(match x.2 with
   | []=>.bind m.ky (m.fn x.1) fun y=>.when (r.1.length<=(m.out y).2.length) (.leaf (GL (KC r.1 r.2.2.length) (m.out y).1,jK r.2.2 r.1 (m.out y).2))
   | c::cs=>.chk (YB (c::cs)) (.bind m.ky (m.fn x.1) fun y=>.when (r.1.length<=(m.out y).2.length) (.leaf (GL (KC r.1 r.2.2.length) (m.out y).1,jK r.2.2 r.1 (m.out y).2))))
  | none=>.fail
theorem ZAW {E:Env} (J:Du U E) {m:HMod U} {as:List (SV U.Ty)} {H:BF U} {r:SV U.Ty×BF U} (h:(Z5s m as H).AZ r):Pz m.spec (Aw U as) (BN U H)=some (AY U r.1,BN U r.2):=by
 simp only[Z5s,E8]at h;obtain⟨p,hp,h⟩:=h;have F :=wU hp;split at h
 ·rename_i x hx;have key:(∀b∈x.2,b=true)/\∃y,m.fn x.1=some y/\p.1.length<=(m.out y).2.length/\r=(GL (KC p.1 p.2.2.length) (m.out y).1,jK p.2.2 p.1 (m.out y).2):=by
   split at h
   ·rename_i A;simp only[Tr.AZ,Em]at h;obtain⟨y,q,z,C⟩:=h;exact⟨by rw[A];intro b hb;simp at hb,y,q,z,C.symm⟩
   ·rename_i c cs D;simp only[Tr.AZ,Em]at h;obtain⟨hc,y,q,z,C⟩:=h;exact⟨by rw[D];exact Zdr hc,y,q,z,C.symm⟩
  obtain⟨hb,y,q,z,rfl⟩:=key;obtain⟨G,I⟩:=Shape.y8 J hx hb;rw[Q5]at G;rw[vZ]at I;unfold Pz;simp only[show m.spec.fa=m.fa from rfl,show m.spec.fb=m.fb from rfl,F,G,I,HMod.ZB0 J,q,Option.map_some,Us];rw[if_pos z,wR,Zs5]
 ·simp[Tr.AZ]at h
end
end Go.Proofs.YtjodhcdmhobmoaaGreatDoor.Le
namespace Go.Proofs.YtjodhcdmhobmoaaGreatDoor.Le
open Go.RowKit (Below)
section
variable {U:DD}
def F8 (U:DD):List Nat->Type
 | []=>Unit
 | t::ts=>U.Ty t×F8 U ts
def Hf:(ts:List Nat)->F8 U ts->List V
 | [],_=>[]
 | t::ts,x=>U.enc t x.1::Hf ts x.2
def VK:(ts:List Nat)->List (SV U.Ty)->Option (F8 U ts)
 | [],[]=>some ()
 | t::ts,v::vs=>match U.IE t v,VK ts vs with|some a,some as=>some (a,as)|_,_=>none
 | _,_=>none
structure Aj (U:DD) where
 ts:List Nat
 rt:Nat
 fn:F8 U ts->Option (U.Ty rt)
 ok:∀t∈ts,t∈U.keys
def kQ:SV U.Ty->Bool
 | .ptr _ _ _ _=>true
 | .raw v=>VR v
 | _=>false
def Z5l (H:BF U):SV U.Ty->Tr U (SV U.Ty)
 | .ptr id i off tot=>if i=0/\off=0/\tot=1 then (match H[id]? with
   | some (.var _ n (.agg cs))=>.leaf (.raw (.CQ n [.agg ((Aw U cs).map YQ)] 0 0))
   | some (.var _ n x)=>(match Yb x with|some z=>.leaf (.raw (.CQ n [.lit z] 0 0))|none=>.fail)
   | _=>.fail) else .fail
 | .raw _=>.fail
 | v=>Tm H v
def jU (H:BF U):List (SV U.Ty)->Tr U (List (SV U.Ty))
 | []=>.leaf []
 | v::vs=>(Z5l H v).andThen fun w=>(jU H vs).andThen fun ws=>.leaf (w::ws)
def yH:SV U.Ty->Bool
 | .lit _ | .si _ _ | .sb _ | .ss _=>true
 | _=>false
def YC:SV U.Ty->Bool
 | .lit _ | .si _ _ | .sb _ | .ss _=>true
 | .agg cs=>cs.all yH
 | _=>false
def Z5M:SV U.Ty->Bool
 | .BH vs=>vs.all YC
 | v=>YC v
theorem ZyZ (x:SV U.Ty):VR (AY U x)=kQ x:=by
 cases x<;>simp[kQ,VR,AY]
theorem Zdj (xs:List (SV U.Ty)):(Aw U xs).any VR=xs.any kQ:=by
 induction xs with
 | nil=>rfl
 | cons x xs q=>simp only[Aw,List.any_cons,q,ZyZ]
theorem Zzz (x:SV U.Ty) (h:yH x=true):JU (AY U x)=true:=by
 cases x<;>simp_all [yH,JU,AY]
theorem ZdL (xs:List (SV U.Ty)) (h:xs.all yH=true):(Aw U xs).all JU=true:=by
 induction xs with
 | nil=>rfl
 | cons x xs q=>
  simp only[List.all_cons,Bool.and_eq_true]at h;simp only[Aw,List.all_cons,Bool.and_eq_true];exact⟨Zzz x h.1,q h.2⟩
theorem ZAi (x:SV U.Ty) (h:YC x=true):Kv (AY U x)=true:=by
 cases x<;>first|(simp[YC]at h;done)|(simp[Kv,AY];done)|skip
 rename_i cs;simp only[AY,Kv];exact ZdL cs h
theorem ZwU (xs:List (SV U.Ty)) (h:xs.all YC=true):(Aw U xs).all Kv=true:=by
 induction xs with
 | nil=>rfl
 | cons x xs q=>
  simp only[List.all_cons,Bool.and_eq_true]at h;simp only[Aw,List.all_cons,Bool.and_eq_true];exact⟨ZAi x h.1,q h.2⟩
theorem ZBv (x:SV U.Ty) (h:Z5M x=true):Pj (AY U x)=true:=by
 cases x<;>first|(simp[Z5M,YC]at h;done)|(simp[Pj,Kv,AY];done)|skip
 ·rename_i cs;simp only[AY,Pj,Kv];exact ZdL cs h
 ·rename_i vs;simp only[AY,Pj];exact ZwU vs h
theorem ZA3 {H:BF U} {x y:SV U.Ty} (h:(Z5l H x).AZ y):Py (BN U H) (AY U x)=some (AY U y):=by
 unfold Z5l at h;split at h
 ·rename_i id i off tot;split at h
  ·rename_i hz;obtain⟨rfl,rfl,rfl⟩:=hz;split at h
   ·rename_i e n cs hb;simp only[Tr.AZ]at h;subst h;simp only[AY,Py,and_self,if_true,Dn,Nc,hb,Option.map_some,DF,CB];simp
   ·rename_i e n x hb C;split at h
    ·rename_i z hz;simp only[Tr.AZ]at h;subst h;have hx:AY U x = .lit z:=by cases x<;>simp_all [Yb,AY]
     simp only[AY,Py,and_self,if_true,Dn,Nc,C,Option.map_some,DF,CB,hx];simp
    ·simp[Tr.AZ]at h
   ·simp[Tr.AZ]at h
  ·simp[Tr.AZ]at h
 ·simp[Tr.AZ]at h
 ·rename_i q A;unfold Py;split
  ·rename_i id i off tot hv;exfalso;cases x<;>simp[AY]at hv
   ·exact q _ _ _ _ rfl
   ·exact A _ rfl
  ·exact xX h
theorem Zuc {H:BF U}:∀{xs ys:List (SV U.Ty)},(jU H xs).AZ ys->MM (BN U H) (Aw U xs)=some (Aw U ys):=by
 intro xs;induction xs with
 | nil=>intro ys h;simp only[jU,Tr.AZ]at h;subst h;rfl
 | cons x xs A=>
  intro ys h;simp only[jU,E8,Tr.AZ]at h;obtain⟨w,q,ws,z,rfl⟩:=h;simp only[Aw,MM,ZA3 q,A z]
def Z5Q (hmods:FuncId->List FuncId->Option (HMod U)) (g:FuncId):Bool:=match hmods g [] with|some m=>m.fb.isEmpty|none=>false
def TU (mods:FuncId->Option (Aj U)) (hmods:FuncId->List FuncId->Option (HMod U)) (mk:FuncId->Option (List (Int×FuncId))):Iy U:=fun g as H=>
 match mk g with
 | some l=>(match as with|[x]=>.when ((OE x).isEmpty=true) (.leaf (.Om (l.flatMap fun q=>[.lit (.int .i64 q.1),.fn q.2 [x] []]),H))|_=>.fail)
 | none=>
 match mods g with
 | some m=>if as.any kQ then (jU H as).andThen fun z =>(match VK m.ts z with
   | some x=>.bind m.rt (m.fn x) fun r=>.when (Z5M (U.encS m.rt r)=true/\(as.flatMap OE).isEmpty=true) (.leaf (U.encS m.rt r,H))
   | none=>.fail)
  else (Qi H as).andThen fun z =>(match VK m.ts z with
  | some x=>.bind m.rt (m.fn x) fun r=>.leaf (U.encS m.rt r,Qy H (as.flatMap OE))
  | none=>.fail)
 | none=>match hmods g (if Z5Q hmods g then [] else YG as) with
  | some m=>Z5s m as H
  | none=>.fail
noncomputable def Y9 (hmods:FuncId->List FuncId->Option (HMod U)):FuncId->List FuncId->Option YS:=fun g k=>(hmods g k).map HMod.spec
open Classical in
noncomputable def Pm (mods:FuncId->Option (Aj U)):FuncId->Option (List V->Option V):=fun g=>
 match mods g with
 | some m=>some fun as=>if h:∃x:F8 U m.ts,Hf m.ts x=as then (m.fn (Classical.choose h)).map (U.enc m.rt) else none
 | none=>none
theorem Zdz {E:Env} (A:Du U E):∀{ts:List Nat} {vs:List (SV U.Ty)} {x:F8 U ts},VK ts vs=some x->Gs E.rows ts (Aw U vs)=Hf ts x:=by
 intro ts;induction ts with
 | nil=>
  intro vs x h;cases vs with
  | nil=>rfl
  | cons=>simp[VK]at h
 | cons t ts C=>
  intro vs x h;cases vs with
  | nil=>simp[VK]at h
  | cons v vs=>
   simp only[VK]at h;split at h
   ·rename_i a as q z;cases h;simp only[Aw,Gs,Hf,A.dec _ _ _ q,C z]
   ·cases h
theorem Zto {E:Env} (z:Du U E):∀{ts:List Nat} {x y:F8 U ts},(∀t∈ts,t∈U.keys)->Hf ts x=Hf ts y->x=y:=by
 intro ts;induction ts with
 | nil=>intro x y _ _;rfl
 | cons t ts A=>
  intro x y hk h;obtain⟨x1,D⟩:=x;obtain⟨F,G⟩:=y;simp only[Hf,List.cons.injEq]at h;rw[z.inj t (hk t (by simp)) _ _ h.1,A (fun C q =>hk C (by simp[q])) h.2]
theorem Z4x {E:Env} (z:Du U E) {mods:FuncId->Option (Aj U)} {g:FuncId} {m:Aj U} (hm:mods g=some m) {F:List V->Option V} (q:Pm mods g=some F) (x:F8 U m.ts):F (Hf m.ts x)=(m.fn x).map (U.enc m.rt):=by
 unfold Pm at q;simp only[hm,Option.some.injEq]at q;subst q;have h:∃y:F8 U m.ts,Hf m.ts y=Hf m.ts x:=⟨x,rfl⟩;simp only[dif_pos h];rw[Zto z m.ok (Classical.choose_spec h)]
theorem ZBg {E:Env} (C:Du U E) {mods:FuncId->Option (Aj U)} {hmods:FuncId->List FuncId->Option (HMod U)} (q:E.env=Pm mods) (N:E.hm=Y9 hmods) (S:∀g,E.pure g=false) (I:∀g m,mods g=some m->E.par g=m.ts)
  (G:∀g,E.own g=none) (n:Nat):Og U (TU mods hmods E.maps) (Eu E (n+1)):=by
 intro g as H v H' h;unfold TU at h;cases z:E.maps g with
 | some l=>
  simp only[z]at h;split at h
  ·simp only[Em,Tr.AZ,Prod.mk.injEq]at h;obtain⟨hi,rfl,rfl⟩:=h;unfold Eu;simp only[z,Aw,Z4f];rw[if_pos hi];simp only[AY,FH,mkV,List.map_flatMap,List.map_cons,List.map_nil]
  ·cases h
 | none=>
 simp only[z]at h;cases hm:mods g with
 | none=>
  simp only[hm]at h;have Q:E.env g=none:=by rw[q];unfold Pm;simp[hm]
  split at h
  ·rename_i m hmm;have:=ZAW C h;unfold Eu;simp only[z,Q,S g,Bool.false_eq_true,if_false];have hfr:Qw E g=Z5Q hmods g:=by
    unfold Qw Z5Q;rw[z,Q,S g,N];simp only[Y9];cases hmods g []<;>rfl
   have hk:E.hm g (if Qw E g then [] else Nw (Aw U as))=some m.spec:=by rw[hfr,N,ZxN];simp only[Y9,hmm,Option.map_some]
   simp only[hk,this]
  ·simp[Tr.AZ]at h
 | some m=>
  simp only[hm]at h
  by_cases hq:as.any kQ=true
  ·rw[if_pos hq]at h;simp only[E8]at h;obtain⟨as',Y,h⟩:=h;split at h
   ·rename_i x hx;simp only[Tr.AZ,Em,Prod.mk.injEq]at h;obtain⟨r,hr,⟨hfl,O⟩,rfl,rfl⟩:=h;have A:∃F,E.env g=some F:=by rw[q];unfold Pm;simp[hm]
    obtain⟨F,A⟩:=A;have J:=Z4x C hm (by rw[<- q];exact A) x;have D :=ZBv _ hfl;rw[C.encS]at D;have M : (Aw U as).flatMap EF=[]:=by rw[Z3Z];simpa using O
    unfold Eu;simp only[z,A];rw[if_pos (by rw[Zdj];exact hq),Zuc Y];simp only[G g,I g m hm,Zdz C hx,J,hr,Option.map_some];rw[if_pos D,M,C.encS];rfl
   ·simp[Tr.AZ]at h
  rw[if_neg hq]at h;simp only[E8]at h;obtain⟨as',Y,h⟩:=h;split at h
  ·rename_i x hx;simp only[Tr.AZ,Prod.mk.injEq]at h;obtain⟨r,hr,rfl,rfl⟩:=h;have A:∃F,E.env g=some F:=by rw[q];unfold Pm;simp[hm]
   obtain⟨F,A⟩:=A;have J:=Z4x C hm (by rw[<- q];exact A) x;unfold Eu;simp only[z,A];rw[if_neg (by rw[Zdj];exact hq)];simp only[Z3v Y,G g,I g m hm,Zdz C hx,J,hr,Option.map_some,Z3Z,Xt H _ (ZbP Y),C.encS]
  ·simp[Tr.AZ]at h
structure Ai (P:Program) (E:Env) (g:FuncId) (m:Aj U):Prop where
 entered:Nj P g
 pure:∀x a,m.fn x=some a->Pe P E g (Hf m.ts x) (U.enc m.rt a)
theorem Ai.Ey {P:Program} {E q : Env} (h:q.Ey=E.Ey) {g:FuncId} {m:Aj U} (hf:Ai P E g m):Ai P q g m:=by
 refine⟨hf.entered,fun x a hx fz w vs hc z hr=>hf.pure x a hx fz w vs hc ?_ hr⟩;intro g r A;exact z g r (by rw[h];exact A)
structure DK (P:Program) (E:Env) (g:FuncId) (m:HMod U):Prop where
 entered:Nj P g
 heap:∀x y,m.fn x=some y->VP P E g (Aw U (m.Dt.enc x).1) (BN U (m.Dt.enc x).2) (AY U (m.out y).1) (BN U (m.out y).2)
theorem DK.Ey {P:Program} {E q : Env} (h:q.Ey=E.Ey) {g:FuncId} {m:HMod U} (hf:DK P E g m):DK P q g m:=by
 refine⟨hf.entered,fun x y hx B w0 σ w vs C z hr=>hf.heap x y hx B w0 σ w vs C ?_ hr⟩;intro g r A;exact z g r (by rw[h];exact A)
theorem ZeJ {P:Program} {E:Env} (hU:Du U E) {mods:FuncId->Option (Aj U)} {hmods:FuncId->List FuncId->Option (HMod U)} (z:E.env=Pm mods) (N:E.hm=Y9 hmods) (J:∀g,E.own g=none) (h:∀g m,mods g=some m->Ai P E g m)
  (h' : ∀g k m,hmods g k=some m->DK P E g m) (mk:Qo P) (O:E.maps=mk.tab):TF P E:=by
 refine⟨?_,fun g k hs M=>?_,fun g l hl=>(by
  obtain⟨a,b⟩:=mk.ok g l (by rw[<- O];exact hl);exact⟨a,b E⟩)⟩
 rotate_left
 ·rw[N]at M;simp only[Y9,Option.map_eq_some_iff]at M;obtain⟨m,hm,rfl⟩:=M;refine⟨(h' g k m hm).entered,fun as H0 r H1 q=>?_⟩;simp only[HMod.spec]at q;split at q
  ·rename_i hx;obtain⟨x,rfl,rfl⟩:=hx;simp only[Option.map_eq_some_iff]at q;obtain⟨y,Y,he⟩:=q;simp only[Prod.mk.injEq]at he;obtain⟨rfl,rfl⟩:=he;generalize hch:(⟨x,rfl,rfl⟩:∃y:m.Dt.X U,Aw U (m.Dt.enc y).1=Aw U (m.Dt.enc x).1/\BN U (m.Dt.enc y).2=BN U (m.Dt.enc x).2)=I at Y;have S:=Shape.Zgy hU m.ok (Classical.choose_spec I).1 (Classical.choose_spec I).2;rw[S]at Y;exact(h' g k m hm).heap x y Y
  ·cases q
 intro g F A;have hm:∃m,mods g=some m:=by
  rw[z]at A;unfold Pm at A;cases hm:mods g with
  | none=>simp[hm]at A
  | some m=>exact⟨m,rfl⟩
 obtain⟨m,hm⟩:=hm;refine⟨(h g m hm).entered,fun as r _ hr=>?_⟩;rw[J g];have G :=A;rw[z]at A;unfold Pm at A;simp only[hm,Option.some.injEq]at A;subst A;simp only at hr;split at hr
 ·rename_i hx;obtain⟨x,Q⟩:=hx;subst Q;have:=Z4x hU hm (by rw[z]at G;exact G) x;have D : (m.fn x).map (U.enc m.rt)=some r:=by
   rw[<- this];simp only[dif_pos (⟨x,rfl⟩:∃y:F8 U m.ts,Hf m.ts y=Hf m.ts x)];exact hr
  cases C:m.fn x with
  | none=>simp[C]at D
  | some a=>
   simp only[C,Option.map_some,Option.some.injEq]at D;subst D;exact(h g m hm).pure x a C
 ·cases hr
theorem ZrJ {P:Program} {E:Env} (I:DV E) (hP:E.P=P) (hF:TF P E) {n:Nat} {f:FuncId} {fn:Func} (M:E.func f=some fn) {c:Code} (hb:fn.body=some c) {as:List V} {r:V} {H1:Heap}
  (h:Dj (Eu E n) E f fn 0 (Zp E fn) (.run c) [] ⟨as++List.replicate (fn.ntmps - as.length) EZ,[]⟩ (r,H1)):Nj P f/\Pe P E f as r:=by
 obtain⟨C,hf2⟩:=I.func f fn M;rw[hP]at C;refine⟨⟨fn,C,by simp[hb],hf2⟩,?_⟩;intro fz w vs q hg hr;have hI:Inv w.heap.size (Start.of w fz) (bare fz) [] w:=⟨Below.refl _ w,Nat.le_refl _,fun id L hL=>(by cases hL),fun id bx hb=>by simp at hb,fun i j b1 b2 L1 L2 g G=>by simp at G,q,
  fun b c hc id bx L hb=>by simp at hb,fun id bx hb=>by simp at hb,fun b c hc _=>hc,fun b hb=>hb.elim⟩
 have z:AV (bare fz) w (as++List.replicate (fn.ntmps - as.length) EZ) (vs.toArray++Array.replicate (fn.ntmps - vs.toArray.size) undef).toList:=by
  simp only[Array.toList_append,Array.toList_replicate,List.size_toArray];rw[<- hr.length];exact hr.append (AV.replicate _ (.no .nil))
 have N:FU E w.heap.size (Start.of w fz) (bare fz) ⟨as++List.replicate (fn.ntmps - as.length) EZ,[]⟩ { tmps:=vs.toArray++Array.replicate (fn.ntmps - vs.toArray.size) undef,defers:=[] } w:=⟨hI,hg,z,rfl⟩;have hwp:=Zgt I hP (Z4r I hP hF n w.heap.size (Start.of w fz)) (XR n) (F:=Fin P fn w.heap.size (Start.of w fz)) (σ0:=bare fz) (ws:=w)
  (fun st r σ a w' hz hr hx=>ZFV I hP hr (fun b c hh=>(hx.fz b c hh).1) hz) h (I.calm f fn c M hb) rfl _ _ _ N (Ext.refl _ _).k
 refine calls_of_wp C hb ?_;intro fr k cs;obtain⟨e,a',w',D,J⟩:=hwp fr k cs;refine⟨e,a',w',?_,J⟩;cases e with
 | normal=>
  obtain⟨O,u,A,G,Q,S,Y,h5,h6,h7⟩:=D;exact⟨O,u,G,u,A,rfl,Q,S,Y,h5,h6,h7⟩
 | ret=>
  obtain⟨O,u,A,G,Q,S,Y,h5,h6,h7⟩:=D;exact⟨O,u,G,u,A,rfl,Q,S,Y,h5,h6,h7⟩
 | exit id=>exact D.elim
 | goto l=>exact D.elim
 | panic c=>exact D.elim
 | outgrown=>exact D.elim
theorem ZsF {P:Program} {E:Env} (C:DV E) (hP:E.P=P) (hF:TF P E) {n:Nat} {f:FuncId} {fn:Func} (G:E.func f=some fn) {c:Code} (hb:fn.body=some c) {as:List V} {J:Heap} {r:V} {H1:Heap} {fa:List (List Fk)} {fb:List Bf} {k:Nat} (hk:J.length=k)
  (h:Dj (Eu E n) E f fn k (Zh E fn fa fb k) (.run c) [] ⟨as++List.replicate (fn.ntmps - as.length) EZ,J⟩ (r,H1)):Nj P f/\VP P E f as J r H1:=by
 obtain⟨z,Y⟩:=C.func f fn G;rw[hP]at z;refine⟨⟨fn,z,by simp[hb],Y⟩,?_⟩;intro B w0 σ w vs hI hg hr;have q:AV σ w (as++List.replicate (fn.ntmps - as.length) EZ) (vs.toArray++Array.replicate (fn.ntmps - vs.toArray.size) undef).toList:=by
  simp only[Array.toList_append,Array.toList_replicate,List.size_toArray];rw[<- hr.length];exact hr.append (AV.replicate _ (.no .nil))
 have I:FU E B w0 σ ⟨as++List.replicate (fn.ntmps - as.length) EZ,J⟩ { tmps:=vs.toArray++Array.replicate (fn.ntmps - vs.toArray.size) undef,defers:=[] } w:=⟨hI,hg,q,rfl⟩;have hwp:=Zgt C hP (Z4r C hP hF n B w0) (XR n) (F:=FinH P fn B w0 σ w) (σ0:=σ) (ws:=w)
  (fun st r σ' a w' hz hr hx=>ZDx C hP (fun id L hL=>by rw[<- hk];exact hI.Z5a hL) hr hx hz) h (C.calm f fn c G hb) rfl _ _ _ I (Ext.refl _ _).k
 refine calls_of_wp z hb ?_;intro fr k cs;obtain⟨e,a',w',A,D⟩:=hwp fr k cs;refine⟨e,a',w',?_,D⟩;cases e with
 | normal=>
  obtain⟨M,u,σ',N,O,Q,S⟩:=A;exact⟨M,u,N,u,σ',rfl,O,Q,S⟩
 | ret=>
  obtain⟨M,u,σ',N,O,Q,S⟩:=A;exact⟨M,u,N,u,σ',rfl,O,Q,S⟩
 | exit id=>exact A.elim
 | goto l=>exact A.elim
 | panic c=>exact A.elim
 | outgrown=>exact A.elim
theorem ZfT {L R:Type} {J:L->Option R}:∀{T:Tr U L} {r:R},T.den J=some r->∃l,T.AZ l/\J l=some r:=by
 intro T;induction T with
 | leaf l=>intro r h;exact⟨l,rfl,h⟩
 | br c a b C D=>
  intro r h;cases c with
  | true=>obtain⟨l,q,z⟩:=C h;exact⟨l,.inl ⟨rfl,q⟩,z⟩
  | false=>obtain⟨l,q,z⟩:=D h;exact⟨l,.inr ⟨rfl,q⟩,z⟩
 | bind t o k A=>
  intro r h;cases o with
  | none=>cases h
  | some a=>obtain⟨l,q,z⟩:=A a h;exact⟨l,⟨a,rfl,q⟩,z⟩
 | chk c a A=>
  intro r h;cases c with
  | true=>obtain⟨l,q,z⟩:=A h;exact⟨l,⟨rfl,q⟩,z⟩
  | false=>cases h
 | fail=>intro r h;cases h
theorem ZBo {L M:Type} {g:L->M}:∀{T:Tr U L} {l:L},T.AZ l->(T.map g).AZ (g l):=by
 intro T;induction T with
 | leaf l=>intro l h;simp only[Tr.AZ]at h;subst h;rfl
 | br c a b z A=>
  intro l h;rcases h with ⟨hc,h⟩|⟨hc,h⟩
  ·exact .inl ⟨hc,z h⟩
  ·exact .inr ⟨hc,A h⟩
 | bind t o k q=>rintro l ⟨a,C,h⟩;exact⟨a,C,q a h⟩
 | chk c a q=>rintro l ⟨hc,h⟩;exact⟨hc,q h⟩
 | fail=>intro l h;exact h
def RQ:Code->List Nat->List Fr->Code×List Fr
 | .seq a b,0::p,K=>RQ a p (.seq b::K)
 | .seq a b,_::p,K=>RQ b p K
 | .cond _ a b,0::p,K=>RQ a p K
 | .cond _ a b,_::p,K=>RQ b p K
 | .block id b,_::p,K=>RQ b p (.blk id::K)
 | .loop b,_::p,K=>RQ b p (.loop b::K)
 | .scope b,_::p,K=>RQ b p K
 | c,_,K=>(c,K)
def Ik (fn:Func):Code:=match fn.body with|some c=>c|none=>.skip
open Classical in
noncomputable def l9 {α:Type} (g:Nat->Option α):Option α:=if h:∃n a,g n=some a then g (Classical.choose h) else none
theorem Z3H {α:Type} {g:Nat->Option α} {a:α} (h:l9 g=some a):∃n,g n=some a:=by
 unfold l9 at h;split at h
 ·exact⟨_,h⟩
 ·cases h
def Mono {α:Type} (g:Nat->Option α):Prop:=∀n a,g n=some a->g (n+1)=some a
theorem Mono.le {α:Type} {g:Nat->Option α} (z:Mono g) {n m:Nat} {a:α} (h:g n=some a) (q:n<=m):g m=some a:=by
 induction q with
 | refl=>exact h
 | step _ A=>exact z _ _ A
theorem ZE3 {α:Type} {g:Nat->Option α} (A:Mono g) {n:Nat} {a:α} (h:g n=some a):l9 g=some a:=by
 unfold l9;have q:∃n a,g n=some a:=⟨n,a,h⟩;rw[dif_pos q];obtain⟨b,hb⟩:=Classical.choose_spec q;have C:=A.le h (Nat.le_max_left n (Classical.choose q));have z:=A.le hb (Nat.le_max_right n (Classical.choose q));rw[hb];rw[C]at z;exact z.symm
end
abbrev AQ (x:Int):Int:=IntKind.wrap .i64 x
end Go.Proofs.YtjodhcdmhobmoaaGreatDoor.Le
namespace Go.Proofs.YtjodhcdmhobmoaaGreatDoor.Le
structure AL (Ty:Nat->Type) (T:Type) where
 BD:T->List V
 encS:T->List (SV Ty)
 dec:List (SV Ty)->Option (T×List (SV Ty))
section
variable {Ty:Nat->Type}
def AL.int (k:IntKind):AL Ty Int where
 BD:=fun a=>[.lit (.int k a)]
 encS:=fun a=>[.si k a]
 dec:=fun cs=>match cs with
  | .si j a::r=>if j=k then some (a,r) else none
  | .lit (.int j a)::r=>if j=k then some (a,r) else none
  | _=>none
def AL.bool:AL Ty Bool where
 BD:=fun b=>[.lit (.bool b)]
 encS:=fun b=>[.sb b]
 dec:=fun cs=>match cs with
  | .sb b::r=>some (b,r)
  | .lit (.bool b)::r=>some (b,r)
  | _=>none
def AL.str:AL Ty ByteArray where
 BD:=fun b=>[.lit (.string b)]
 encS:=fun b=>[.ss b]
 dec:=fun cs=>match cs with
  | .ss b::r=>some (b,r)
  | .lit (.string b)::r=>some (b,r)
  | _=>none
def AL.list (t n:Nat) (e:Ty t->V):AL Ty (List (Ty t)) where
 BD:=fun xs=>[.sl false n (xs.map e)]
 encS:=fun xs=>[.sl t xs]
 dec:=fun cs=>match cs with
  | .sl q xs::r=>if h:q = t then some (h▸xs,r) else none
  | .nil _::r=>some ([],r)
  | _=>none
def AL.unit:AL Ty Unit where
 BD:=fun _=>[]
 encS:=fun _=>[]
 dec:=fun cs=>some ((),cs)
def AL.pair {A B:Type} (a:AL Ty A) (b:AL Ty B):AL Ty (A×B) where
 BD:=fun x=>a.BD x.1++b.BD x.2
 encS:=fun x=>a.encS x.1++b.encS x.2
 dec:=fun cs=>match a.dec cs with
  | some (x,r)=>match b.dec r with|some (y,q)=>some ((x,y),q)|none=>none
  | none=>none
def AL.Cj {A B:Type} (f:A->B) (g:B->A) (b:AL Ty B):AL Ty A where
 BD:=fun x=>b.BD (f x)
 encS:=fun x=>b.encS (f x)
 dec:=fun cs=>match b.dec cs with|some (y,r)=>some (g y,r)|none=>none
def AL.agg {T:Type} (c:AL Ty T) (v:SV Ty):Option T:=match v with
 | .agg cs=>match c.dec cs with|some (a,[])=>some a|_=>none
 | _=>none
def AL.one {T:Type} (c:AL Ty T) (v:SV Ty):Option T:=match c.dec [v] with|some (a,[])=>some a|_=>none
def AL.BU {T:Type} (c:AL Ty T) (a:T):V:=(c.BD a).headD .no
def AL.D7 {T:Type} (c:AL Ty T) (a:T):SV Ty:=(c.encS a).headD .no
end
structure A8 (U:DD) {T:Type} (c:AL U.Ty T) (rs:List Nat):Prop where
 enc:∀a,Aw U (c.encS a)=c.BD a
 len:∀a,(c.BD a).length=rs.length
 dec:∀cs a rest,c.dec cs=some (a,rest)->∃pre,cs=pre++rest/\pre.length=rs.length/\Gg rs (Aw U pre)=c.BD a
 nr:∀a,CS (c.BD a)=true
 inj:∀a b,c.BD a=c.BD b->a=b
section
variable {U:DD}
theorem A8.int (k:IntKind):A8 U (AL.int k:AL U.Ty Int) [0]:=by
 refine⟨fun a=>rfl,fun a=>rfl,?_,fun a=>rfl,fun a b h=>by simpa[AL.int]using h⟩;intro cs a z h;simp only[AL.int]at h;split at h
 ·rename_i j x r;split at h
  ·rename_i q;simp only[Option.some.injEq,Prod.mk.injEq]at h;obtain⟨rfl,rfl⟩:=h;subst q;exact⟨[_],rfl,rfl,rfl⟩
  ·cases h
 ·rename_i j x r;split at h
  ·rename_i q;simp only[Option.some.injEq,Prod.mk.injEq]at h;obtain⟨rfl,rfl⟩:=h;subst q;exact⟨[_],rfl,rfl,rfl⟩
  ·cases h
 ·cases h
theorem A8.bool:A8 U (AL.bool:AL U.Ty Bool) [0]:=by
 refine⟨fun a=>rfl,fun a=>rfl,?_,fun a=>rfl,fun a b h=>by simpa[AL.bool]using h⟩;intro cs a q h;simp only[AL.bool]at h;split at h<;>cases h<;>exact⟨[_],rfl,rfl,rfl⟩
theorem A8.str:A8 U (AL.str:AL U.Ty ByteArray) [0]:=by
 refine⟨fun a=>rfl,fun a=>rfl,?_,fun a=>rfl,fun a b h=>by simpa[AL.str]using h⟩;intro cs a q h;simp only[AL.str]at h;split at h<;>cases h<;>exact⟨[_],rfl,rfl,rfl⟩
theorem ZDU {α q:Type} {f:α->q} (hf:∀a b,f a=f b->a=b):∀{xs ys:List α},xs.map f=ys.map f->xs=ys:=by
 intro xs;induction xs with
 | nil=>simp_all
 | cons x xs z=>intro ys h;cases ys with
  | nil=>simp at h
  | cons y ys=>
   grind
theorem A8.list {t n:Nat} {e:U.Ty t->V} (D:∀a,U.enc t a=e a) (A:U.Au t=n) (F:∀a,DC (e a)=true) (z:∀a b,e a=e b->a=b):A8 U (AL.list t n e:AL U.Ty (List (U.Ty t))) [n]:=by
 have q:∀xs:List (U.Ty t),xs.map (U.enc t)=xs.map e:=fun xs=>List.map_congr_left fun a _=>D a;refine⟨fun a=>?_,fun a=>rfl,?_,fun a=>?_,fun a b h=>?_⟩
 ·simp[AL.list,Aw,AY,A,q]
 ·intro cs a C h;simp only[AL.list]at h;split at h
  ·rename_i I xs r;split at h
   ·rename_i G;subst G;simp only[Option.some.injEq,Prod.mk.injEq]at h;obtain⟨rfl,rfl⟩:=h;exact⟨[_],rfl,rfl,by simp[Aw,AY,Gg,Gt,AL.list,A,q]⟩
   ·cases h
  ·cases h;exact⟨[_],rfl,rfl,by simp[Aw,AY,Gg,Gt,AL.list]⟩
  ·cases h
 ·simp only[AL.list,CS,DC,Bool.and_true];rw[Lm]
  simp_all
 ·simp only[AL.list,List.cons.injEq,V.sl.injEq,true_and,and_true]at h;exact ZDU z h
theorem A8.unit:A8 U (AL.unit:AL U.Ty Unit) []:=
 ⟨fun a=>rfl,fun a=>rfl,fun cs a q h=>by cases h;exact⟨[],rfl,rfl,rfl⟩,fun a=>rfl,fun a b _=>rfl⟩
theorem Zpc:∀(q z:List Nat) (x y:List V),x.length=q.length->Gg (q++z) (x++y)=Gg q x++Gg z y:=by
 intro q;induction q with
 | nil=>intro z x y h;cases x with
  | nil=>simp[Gg]
  | cons=>simp at h
 | cons r q A=>intro z x y h;cases x with
  | nil=>simp at h
  | cons v x=>simp[Gg,A z x y (by simpa using h)]
theorem ZpY (x y:List V):CS (x++y)=(CS x&&CS y):=by
 induction x with
 | nil=>simp[CS]
 | cons a x q=>simp[CS,q,Bool.and_assoc]
theorem A8.pair {A B:Type} {a:AL U.Ty A} {b:AL U.Ty B} {D F:List Nat} (z:A8 U a D) (hb:A8 U b F):A8 U (AL.pair a b) (D++F):=by
 refine⟨fun x=>?_,fun x=>?_,?_,fun x=>?_,fun x y h=>?_⟩
 ·simp only[AL.pair,SS,z.enc,hb.enc]
 ·simp only[AL.pair,List.length_append,z.len,hb.len]
 ·intro cs x G h;simp only[AL.pair]at h;split at h
  ·rename_i p r hp;split at h
   ·rename_i q r' M;cases h;obtain⟨O,e1,C,S⟩:=z.dec _ _ _ hp;obtain⟨Q,e2,N,Y⟩:=hb.dec _ _ _ M;refine⟨O++Q,by simp_all,by simp[C,N],?_⟩;rw[SS,Zpc _ _ _ _ (by rw[Jh];exact C),S,Y];rfl
   ·cases h
  ·cases h
 ·simp only[AL.pair,ZpY,z.nr,hb.nr,Bool.and_self]
 ·simp only[AL.pair]at h;obtain⟨I,J⟩:=List.append_inj h (by rw[z.len,z.len]);obtain⟨x1,x2⟩:=x;obtain⟨y1,y2⟩:=y;exact Prod.ext (z.inj _ _ I) (hb.inj _ _ J)
theorem A8.Cj {A B:Type} {f:A->B} {g:B->A} {b:AL U.Ty B} {r:List Nat} (hb:A8 U b r) (q:∀y,f (g y)=y) (C:∀x,g (f x)=x):A8 U (AL.Cj f g b) r:=by
 refine⟨fun x=>hb.enc _,fun x=>hb.len _,?_,fun x=>hb.nr _,fun x y h=>?_⟩
 ·intro cs x z h;simp only[AL.Cj]at h;split at h
  ·rename_i y F D;cases h;obtain⟨p,e,l,t⟩:=hb.dec _ _ _ D;exact⟨p,e,l,by simp only[AL.Cj,q];exact t⟩
  ·cases h
 ·have:=hb.inj _ _ h
  grind
theorem A8.agg {T:Type} {c:AL U.Ty T} {r:List Nat} (h:A8 U c r) {v:SV U.Ty} {a:T} (q:c.agg v=some a):ES r (AY U v) = .agg (c.BD a):=by
 unfold AL.agg at q;split at q
 ·split at q
  ·rename_i cs _ z;cases q;obtain⟨p,e,l,t⟩:=h.dec _ _ _ z;simp only[List.append_nil]at e;subst e;simp only[AY,ES,t]
  ·cases q
 ·cases q
theorem A8.one {T:Type} {c:AL U.Ty T} {n:Nat} (h:A8 U c [n]) {v:SV U.Ty} {a:T} (q:c.one v=some a) (hv:∀cs,AY U v≠.agg cs):ES [n] (AY U v)=c.BU a:=by
 unfold AL.one at q;split at q
 ·rename_i z;cases q;obtain⟨p,e,l,t⟩:=h.dec _ _ _ z;simp only[List.append_nil]at e;subst e;simp only[Aw,Gg]at t;unfold AL.BU;rw[<- t];unfold ES
  grind
 ·cases q
theorem TG {k:IntKind} {v:SV U.Ty} {a:Int} (h:(AL.int k:AL U.Ty Int).one v=some a):∀cs,AY U v≠.agg cs:=by
 rintro cs hc
 cases v<;>simp_all [AY,AL.one,AL.int]
theorem ZDb {v:SV U.Ty} {a:Bool} (h:(AL.bool:AL U.Ty Bool).one v=some a):∀cs,AY U v≠.agg cs:=by
 rintro cs hc
 cases v<;>simp_all [AY,AL.one,AL.bool]
theorem ZFA {v:SV U.Ty} {a:ByteArray} (h:(AL.str:AL U.Ty ByteArray).one v=some a):∀cs,AY U v≠.agg cs:=by
 rintro cs hc
 cases v<;>simp_all [AY,AL.one,AL.str]
theorem O8 {t n:Nat} {e:U.Ty t->V} {v:SV U.Ty} {a:List (U.Ty t)} (h:(AL.list t n e:AL U.Ty (List (U.Ty t))).one v=some a):∀cs,AY U v≠.agg cs:=by
 rintro cs hc
 cases v<;>simp_all [AY,AL.one,AL.list]
theorem A8.Zh5 {T:Type} {c:AL U.Ty T} {n:Nat} (h:A8 U c [n]) (a:T):AY U (c.D7 a)=c.BU a:=by
 unfold AL.D7 AL.BU;rw[<- h.enc a];have hl:=h.len a;rw[<- h.enc a,Jh]at hl;cases hs:c.encS a with
 | nil=>simp_all
 | cons x xs=>rfl
theorem A8.TD {T:Type} {c:AL U.Ty T} {n:Nat} (h:A8 U c [n]) {a b:T} (q:c.BU a=c.BU b):a=b:=by
 refine h.inj a b ?_;have z:=h.len a;have A:=h.len b;unfold AL.BU at q;cases C:c.BD a with
 | nil=>simp_all
 | cons x xs=>
  cases hb:c.BD b with
  | nil=>simp_all
  | cons y ys=>
   simp_all
theorem A8.TM {T:Type} {c:AL U.Ty T} {n:Nat} (h:A8 U c [n]) (a:T):DC (c.BU a)=true:=by
 have:=h.nr a;unfold AL.BU;cases q:c.BD a with
 | nil=>rfl
 | cons x xs=>rw[q]at this;simp[CS]at this;exact this.1
end
def AL.skip {Ty:Nat->Type}:AL Ty Unit where
 BD:=fun _=>[.und]
 encS:=fun _=>[.und]
 dec:=fun cs=>match cs with
  | .und::r=>some ((),r)
  | _=>none
theorem A8.skip {U:DD}:A8 U (AL.skip:AL U.Ty Unit) [0]:=by
 refine⟨fun a=>rfl,fun a=>rfl,?_,fun a=>rfl,fun a b _=>rfl⟩;intro cs a q h;simp only[AL.skip]at h;split at h<;>cases h;exact⟨[_],rfl,rfl,rfl⟩
def rawS {Ty:Nat->Type}:V->SV Ty
 | .lit v=>.lit v
 | .und=>.und
 | _=>.no
def lG:V->Bool
 | .lit _=>true
 | .und=>true
 | _=>false
def AL.MV {Ty:Nat->Type} {T:Type} (c:AL Ty T) (n:Nat) (a:T):V:=.CQ n [.agg (c.BD a)] 0 0
def AL.mM {Ty:Nat->Type} {T:Type} (c:AL Ty T) (n:Nat) (v:SV Ty):Option T:=match v with
 | .raw (.CQ m [.agg cs] 0 0)=>if m=n/\cs.all lG=true then c.agg (.agg (cs.map rawS)) else none
 | _=>none
def AL.Oc {Ty:Nat->Type} {T:Type} (c:AL Ty T) (n:Nat) (a:T):V:=.CQ n (c.BD a) 0 0
def AL.zG {Ty:Nat->Type} {T:Type} (c:AL Ty T) (n:Nat) (v:SV Ty):Option T:=match v with
 | .raw (.CQ m [.lit z] 0 0)=>if m=n then (match c.dec [.lit z] with|some (a,[])=>some a|_=>none) else none
 | _=>none
theorem A8.ZfI {U:DD} {T:Type} {c:AL U.Ty T} {r:List Nat} (h:A8 U c r) {n:Nat} {v:SV U.Ty} {a:T} (q:c.zG n v=some a) (rs:List Nat):ES rs (AY U v)=c.Oc n a:=by
 unfold AL.zG at q;split at q
 ·rename_i m z;split at q
  ·rename_i hc;subst hc;split at q
   ·rename_i F D;cases q;obtain⟨pre,A,G,C⟩:=h.dec _ _ _ D;rw[List.append_nil]at A;subst A;have:c.BD a=[V.lit z]:=by
     rw[<- C];cases r with
     | nil=>simp_all
     | cons a b=>cases b<;>simp[Aw,AY,Gg,Gt]
    simp only[AY,ES,Gt,AL.Oc,this]
   ·cases q
  ·cases q
 ·cases q
theorem A8.Zgu {U:DD} {T:Type} {c:AL U.Ty T} {r:List Nat} (h:A8 U c r) (n:Nat) (a:T):DC (c.Oc n a)=true:=by
 simp[AL.Oc,DC,h.nr]
theorem A8.ZfR {U:DD} {T:Type} {c:AL U.Ty T} {r:List Nat} (h:A8 U c r) {n:Nat} {a b:T} (q:c.Oc n a=c.Oc n b):a=b:=by
 simp only[AL.Oc,V.CQ.injEq,and_true,true_and]at q;exact h.inj _ _ q
theorem ZC0 {U:DD}:∀{cs:List V},cs.all lG=true->Aw U (cs.map rawS)=cs:=by
 intro cs;induction cs with
 | nil=>intro _;rfl
 | cons c cs q=>
  intro h;simp only[List.all_cons,Bool.and_eq_true]at h;simp only[List.map_cons,Aw,q h.2];cases c<;>simp_all [lG,rawS,AY]
theorem Zwt:∀{cs:List V},cs.all lG=true->∀rs,Gg rs cs=cs:=by
 intro cs;induction cs with
 | nil=>intro _ rs;cases rs<;>rfl
 | cons c cs q=>
  intro h rs;simp only[List.all_cons,Bool.and_eq_true]at h;cases rs with
  | nil=>rfl
  | cons r rs=>
   simp only[Gg,q h.2];cases c<;>simp_all [lG,Gt]
theorem A8.Z4I {U:DD} {T:Type} {c:AL U.Ty T} {r:List Nat} (h:A8 U c r) {n:Nat} {v:SV U.Ty} {a:T} (z:c.mM n v=some a) (rs:List Nat):ES rs (AY U v)=c.MV n a:=by
 unfold AL.mM at z;split at z
 ·rename_i m cs;split at z
  ·rename_i hc;obtain⟨rfl,q⟩:=hc;have:=h.agg z;simp only[AY,ES,ZC0 q,V.agg.injEq]at this;rw[Zwt q]at this;simp only[AY,ES,Gt,AL.MV,this]
  ·cases z
 ·cases z
theorem A8.Z5q {U:DD} {T:Type} {c:AL U.Ty T} {r:List Nat} (h:A8 U c r) (n:Nat) (a:T):DC (c.MV n a)=true:=by
 simp[AL.MV,DC,CS,h.nr]
theorem A8.Z4C {U:DD} {T:Type} {c:AL U.Ty T} {r:List Nat} (h:A8 U c r) {n:Nat} {a b:T} (q:c.MV n a=c.MV n b):a=b:=by
 simp only[AL.MV,V.CQ.injEq,List.cons.injEq,V.agg.injEq,and_true,true_and]at q;exact h.inj _ _ q
noncomputable def Ot {U:DD} (P:Program) (gl:Nat->Option (List V)) (f:FuncId) (mods:FuncId->Option (Aj U)) (hmods:FuncId->List FuncId->Option (HMod U)) (mk:Qo P):Env:=
 { PR P (fun _=>false) (Pm mods) with
  func:=fun g=>if g=f then P.funcs[g]? else none
  Ey:=gl
  hm:=Y9 hmods
  maps:=mk.tab
  par:=fun g=>match mods g with|some m=>m.ts|none=>[] }
def ZDL (E:Env) (P:Program) (f:FuncId):Bool:=match (P.funcs[f]?).bind (·.body) with|some c=>!Ef E f c|none=>false
noncomputable def EV {U:DD} (P:Program) (gl:Nat->Option (List V)) (f:FuncId) (mods:FuncId->Option (Aj U)) (hmods:FuncId->List FuncId->Option (HMod U)) (mk:Qo P):Env:=
 { Ot P gl f mods hmods mk with quiet:=ZDL (Ot P gl f mods hmods mk) P f }
section
variable {U:DD} {P:Program} {gl:Nat->Option (List V)} {f:FuncId} {mods:FuncId->Option (Aj U)} {hmods:FuncId->List FuncId->Option (HMod U)} {mk:Qo P}
theorem Zi6 (C:P.follows .mixedOrders=true) {fn:Func} {c:Code} (A:P.funcs[f]? = some fn) (z:(fn.name == "runtime.NumGoroutine")=false) (hb:fn.body=some c) (F:Ef (EV P gl f mods hmods mk) f c=true):DV (EV P gl f mods hmods mk):=by
 refine⟨fun t i h=>h,?_,C,?_,?_,?_,?_,fun t ks h=>h,?_⟩
 ·intro g D h;simp only[EV,Ot]at h;split at h
  ·rename_i J;subst J;rw[A]at h;cases h;exact⟨A,z⟩
  ·cases h
 ·intro g D M h G;simp only[EV,Ot]at h
  simp_all
 ·intro t k h;simp only[EV,Ot,PR]at h;split at h
  ·rename_i d q;simp only[Option.some.injEq]at h;subst h;exact q
  ·cases h
 ·intro t h;simp only[EV,Ot,PR]at h;split at h
  ·rename_i q;exact q
  ·cases h
 ·intro t h;simp only[EV,Ot,PR]at h;split at h
  ·rename_i q;exact q
  ·cases h
 ·intro t h;simp only[EV,Ot,PR]at h;split at h
  ·rename_i e I;split at h
   ·rename_i q;exact⟨e,I,q⟩
   ·cases h
  ·cases h
def wO:(ts:List Nat)->F8 U ts->List (SV U.Ty)
 | [],_=>[]
 | t::ts,x=>U.encS t x.1::wO ts x.2
def kP (ts:List Nat) (x:F8 U ts) (n:Nat):Dw U:=⟨wO ts x++List.replicate (n - ts.length) .no,[]⟩
theorem ZrK {E:Env} (q:Du U E):∀{ts:List Nat} (x:F8 U ts),Aw U (wO ts x)=Hf ts x:=by
 intro ts;induction ts with
 | nil=>intro x;rfl
 | cons t ts z=>intro x;simp only[wO,Aw,Hf,q.encS,z]
theorem Z9T:∀{ts:List Nat} (x:F8 U ts),(Hf ts x).length=ts.length:=by
 intro ts;induction ts with
 | nil=>intro x;rfl
 | cons t ts q=>intro x;simp[Hf,q]
theorem ZxO {E:Env} (q:Du U E) {ts:List Nat} (x:F8 U ts) (n:Nat):DI U (kP ts x n)=⟨Hf ts x++List.replicate (n - (Hf ts x).length) EZ,[]⟩:=by
 simp only[DI,kP,SS,ZrK q,Z9T];congr 1;congr 1;rw[FH,List.map_replicate];rfl
theorem fn_ok {E0:Env} (z:E0.Ey=gl) (J:Du U (EV P gl f mods hmods mk)) (G:P.follows .mixedOrders=true) {fn:Func} {c:Code} (I:∀g m,mods g=some m->Ai P E0 g m) (F:∀g k m,hmods g k=some m->DK P E0 g m) (C:P.funcs[f]? = some fn) (q:(fn.name == "runtime.NumGoroutine")=false)
  (hb:fn.body=some c) (A:Ef (EV P gl f mods hmods mk) f c=true) (m:Aj U)
  (h:∀x a,m.fn x=some a->Dj (Eu (EV P gl f mods hmods mk) 1) (EV P gl f mods hmods mk) f fn 0 (Zp (EV P gl f mods hmods mk) fn) (.run c) [] (DI U (kP m.ts x fn.ntmps)) (U.enc m.rt a,[])):Ai P E0 f m:=by
 have M:=Zi6 (gl:=gl) (mods:=mods) G C q hb A;have N:TF P (EV P gl f mods hmods mk):=ZeJ J rfl rfl (fun _=>rfl) (fun g m hm=>(I g m hm).Ey (by rw[z];rfl)) (fun g k m hm=>(F g k m hm).Ey (by rw[z];rfl)) mk rfl;have D : (EV P gl f mods hmods mk).func f=some fn:=by simp only[EV,Ot,if_true];exact C
 have key:∀x a,m.fn x=some a->Nj P f/\Pe P (EV P gl f mods hmods mk) f (Hf m.ts x) (U.enc m.rt a):=by
  intro x a hx;have:=h x a hx;rw[ZxO J]at this;exact ZrJ M rfl N D hb this
 refine⟨⟨fn,C,by simp[hb],q⟩,fun x a hx fz w vs hc O hr=>(key x a hx).2 fz w vs hc ?_ hr⟩;intro g r Q;exact O g r (by rw[z];exact Q)
def kR (e:List (SV U.Ty)×BF U) (n:Nat):Dw U:=⟨e.1++List.replicate (n - e.1.length) .no,e.2⟩
theorem Zy0 (e:List (SV U.Ty)×BF U) (n:Nat):DI U (kR e n)=⟨Aw U e.1++List.replicate (n - (Aw U e.1).length) EZ,BN U e.2⟩:=by
 simp only[DI,kR,SS,Jh];congr 1;congr 1;rw[FH,List.map_replicate];rfl
theorem ZGL {E0:Env} (z:E0.Ey=gl) (O:Du U (EV P gl f mods hmods mk)) (G:P.follows .mixedOrders=true) {fn:Func} {c:Code} (I:∀g m,mods g=some m->Ai P E0 g m) (F:∀g k m,hmods g k=some m->DK P E0 g m) (C:P.funcs[f]? = some fn) (q:(fn.name == "runtime.NumGoroutine")=false)
  (hb:fn.body=some c) (A:Ef (EV P gl f mods hmods mk) f c=true) (m:HMod U) {fa:List (List Fk)} {fb:List Bf} {k:Nat} (hk:∀x:m.Dt.X U,(m.Dt.enc x).2.length=k)
  (h:∀(x:m.Dt.X U) (y:U.Ty m.ky),m.fn x=some y->Dj (Eu (EV P gl f mods hmods mk) 1) (EV P gl f mods hmods mk) f fn k (Zh (EV P gl f mods hmods mk) fn fa fb k) (.run c) [] (DI U (kR (m.Dt.enc x) fn.ntmps)) (AY U (m.out y).1,BN U (m.out y).2)):DK P E0 f m:=by
 have M:=Zi6 (gl:=gl) (mods:=mods) (hmods:=hmods) G C q hb A;have N:TF P (EV P gl f mods hmods mk):=ZeJ O rfl rfl (fun _=>rfl) (fun g m hm=>(I g m hm).Ey (by rw[z];rfl)) (fun g k m hm=>(F g k m hm).Ey (by rw[z];rfl)) mk rfl;have D : (EV P gl f mods hmods mk).func f=some fn:=by simp only[EV,Ot,if_true];exact C
 refine⟨⟨fn,C,by simp[hb],q⟩,fun x y hx B w0 σ w vs Y Q hr=>?_⟩;have J:=h x y hx;rw[Zy0]at J;exact(ZsF M rfl N D hb (by rw[Us];exact hk x) J).2 B w0 σ w vs Y (fun g r S=>Q g r (by rw[z];exact S)) hr
theorem Zhq (q:Du U (EV P gl f mods hmods mk)):Og U (TU mods hmods mk.tab) (Eu (EV P gl f mods hmods mk) 1):=
 ZBg q rfl rfl (fun _=>rfl) (fun g m h=>by simp only[EV,Ot,h]) (fun _=>rfl) 0
end
structure CJ (U:DD) (E:Env) (t:Nat):Prop where
 encS:∀a,AY U (U.encS t a)=U.enc t a
 dec:∀v a,U.IE t v=some a->ES (E.rows t) (AY U v)=U.enc t a
 cells:∀a,(U.enc t a).cells=Aw U (cellsS (U.encS t a))
 nr:∀a,DC (U.enc t a)=true
 inj:∀a b,U.enc t a=U.enc t b->a=b
def kW (U:DD) (E:Env) {α:Type}:List ((i:Nat)×(α->U.Ty i))->Prop
 | []=>True
 | c::cs=>CJ U E c.1/\kW U E cs
def Z5g (U:DD) {α:Type} (x y:α):List ((i:Nat)×(α->U.Ty i))->Prop
 | []=>True
 | c::cs=>c.2 x=c.2 y/\Z5g U x y cs
theorem Zfg {U:DD} {E:Env} {α:Type} (x:α):∀{cs:List ((i:Nat)×(α->U.Ty i))},kW U E cs->Aw U (cs.map fun c=>U.encS c.1 (c.2 x))=cs.map fun c=>U.enc c.1 (c.2 x):=by
 intro cs;induction cs with
 | nil=>intro _;rfl
 | cons c cs q=>intro h;simp only[List.map_cons,Aw,h.1.encS,q h.2]
theorem ZCI {U:DD} {E:Env} {α:Type} (x:α):∀{cs:List ((i:Nat)×(α->U.Ty i))},kW U E cs->CS (cs.map fun c=>U.enc c.1 (c.2 x))=true:=by
 intro cs;induction cs with
 | nil=>intro _;rfl
 | cons c cs q=>intro h;simp only[List.map_cons,CS,h.1.nr,q h.2,Bool.and_self]
theorem ZBr {U:DD} {E:Env} {α:Type} (x y:α):∀{cs:List ((i:Nat)×(α->U.Ty i))},kW U E cs->(cs.map fun c=>U.enc c.1 (c.2 x))=(cs.map fun c=>U.enc c.1 (c.2 y))->Z5g U x y cs:=by
 intro cs;induction cs with
 | nil=>intro _ _;trivial
 | cons c cs q=>intro h e;simp only[List.map_cons,List.cons.injEq]at e;exact⟨h.1.inj _ _ e.1,q h.2 e.2⟩
theorem CJ.BH {U:DD} {E:Env} {t:Nat} (cs:List ((i:Nat)×(U.Ty t->U.Ty i))) (h:kW U E cs) (q:∀x,U.enc t x = .BH (cs.map fun c=>U.enc c.1 (c.2 x))) (z:∀x,U.encS t x = .BH (cs.map fun c=>U.encS c.1 (c.2 x))) (A:∀v,U.IE t v=none)
  (C:∀x y,Z5g U x y cs->x=y):CJ U E t:=by
 refine⟨fun a=>?_,fun v a e=>?_,fun a=>?_,fun a=>?_,fun a b e=>?_⟩
 ·rw[q,z,AY,Zfg a h]
 ·rw[A]at e;cases e
 ·rw[q,z];show [V.BH _]=[V.BH _];rw[Zfg a h]
 ·rw[q];exact ZCI a h
 ·rw[q,q]at e;exact C a b (ZBr a b h (V.BH.inj e))
theorem CJ.IA {U:DD} {E:Env} {t:Nat} {c:AL U.Ty (U.Ty t)} {rs:List Nat} (hc:A8 U c rs) (hr:E.rows t=rs) (q:∀a,U.enc t a = .agg (c.BD a)) (z:∀a,U.encS t a = .agg (c.encS a)) (A:∀v,U.IE t v=c.agg v):CJ U E t:=by
 refine⟨fun a=>?_,fun v a h=>?_,fun a=>?_,fun a=>?_,fun a b h=>?_⟩
 ·rw[q,z,AY,hc.enc]
 ·rw[hr,q];exact hc.agg (by rw[<- A];exact h)
 ·rw[q,z];exact(hc.enc a).symm
 ·rw[q];exact hc.nr a
 ·rw[q,q]at h;exact hc.inj _ _ (V.agg.inj h)
theorem CJ.IQ {U:DD} {E:Env} {t n:Nat} {c:AL U.Ty (U.Ty t)} (hc:A8 U c [n]) (hr:E.rows t=[n]) (F:∀{v:SV U.Ty} {a:U.Ty t},c.one v=some a->∀cs,AY U v≠.agg cs) (q:∀a,U.enc t a=c.BU a) (z:∀a,U.encS t a=c.D7 a) (A:∀v,U.IE t v=c.one v)
  (C:∀a,(c.BU a).cells=[c.BU a]) (D:∀a,cellsS (c.D7 a)=[c.D7 a]):CJ U E t:=by
 refine⟨fun a=>?_,fun v a h=>?_,fun a=>?_,fun a=>?_,fun a b h=>?_⟩
 ·rw[q,z];exact hc.Zh5 a
 ·rw[A]at h;rw[hr,q];exact hc.one h (F h)
 ·rw[q,z,C,D,Aw,Aw,hc.Zh5]
 ·rw[q];exact hc.TM a
 ·rw[q,q]at h;exact hc.TD h
def lT (p:Nat->Prop):List Nat->Prop
 | []=>True
 | t::ts=>p t/\lT p ts
theorem lT.at {p:Nat->Prop} {t:Nat}:∀{l:List Nat},lT p l->t∈l->p t:=by
 intro l;induction l with
 | nil=>intro _ m;cases m
 | cons x l q=>
  intro h m;rcases List.mem_cons.1 m with rfl|m
  ·exact h.1
  ·exact q h.2 m
section
variable {U:DD} {R P:Type}
def Hz {R P:Type} (g:P->Option R):R⊕P->Option R
 | .inl r=>some r
 | .inr q=>g q
def TQ (T:P->Tr U (R⊕P)):Nat->P->Option R
 | 0,_=>none
 | n+1,p=>(T p).den (Hz (TQ T n))
noncomputable def AU (T:P->Tr U (R⊕P)) (p:P):Option R:=l9 fun n=>TQ T n p
theorem Zh2 {L:Type} {J K:L->Option R} (h:∀l r,J l=some r->K l=some r):∀{T:Tr U L} {r:R},T.den J=some r->T.den K=some r:=by
 intro T;induction T with
 | leaf l=>intro r hr;exact h l r hr
 | br c a b z A=>intro r hr;cases c with
  | true=>exact z hr
  | false=>exact A hr
 | bind t o k q=>intro r hr;cases o with
  | none=>cases hr
  | some a=>exact q a hr
 | chk c a q=>intro r hr;cases c with
  | true=>exact q hr
  | false=>cases hr
 | fail=>intro r hr;cases hr
theorem Zw9 (T:P->Tr U (R⊕P)):∀n p r,TQ T n p=some r->TQ T (n+1) p=some r:=by
 intro n;induction n with
 | zero=>intro p r h;cases h
 | succ n z=>
  intro p r h;refine Zh2 ?_ h;intro l r hl;cases l with
  | inl a=>exact hl
  | inr q=>exact z q r hl
theorem ZgL (T:P->Tr U (R⊕P)) {n:Nat} {p:P} {r:R} (h:TQ T n p=some r):AU T p=some r:=
 ZE3 (fun n a h=>Zw9 T n p a h) h
theorem Aa (T:P->Tr U (R⊕P)) (p:P):AU T p=(T p).den (Hz (AU T)):=by
 have F:∀r,AU T p=some r->(T p).den (Hz (AU T))=some r:=by
  intro r h;obtain⟨n,z⟩:=Z3H h;cases n with
  | zero=>cases z
  | succ n=>
   refine Zh2 ?_ z;intro l r hl;cases l with
   | inl a=>exact hl
   | inr q=>exact ZgL T hl
 have I:∀r,(T p).den (Hz (AU T))=some r->AU T p=some r:=by
  intro r h;obtain⟨l,hl,hr⟩:=ZfT h;have key:∃n,(T p).den (Hz (TQ T n))=some r:=by
   have z:∃n,Hz (TQ T n) l=some r:=by
    cases l with
    | inl a=>exact⟨0,hr⟩
    | inr q=>obtain⟨n,z⟩:=Z3H hr;exact⟨n,z⟩
   obtain⟨n,z⟩:=z;refine⟨n,?_⟩;have:∀(X:Tr U (R⊕P)),X.AZ l->X.den (Hz (TQ T n))=some r:=by
    intro X;induction X with
    | leaf x=>intro hx;simp only[Tr.AZ]at hx;subst hx;exact z
    | br c a b C D=>
     rintro (⟨rfl,hx⟩|⟨rfl,hx⟩)
     ·exact C hx
     ·exact D hx
    | bind t o k A=>rintro ⟨a,rfl,hx⟩;exact A a hx
    | chk c a A=>rintro ⟨rfl,hx⟩;exact A hx
    | fail=>intro hx;exact hx.elim
   exact this _ hl
  obtain⟨n,z⟩:=key;exact ZgL T (n:=n+1) z
 cases G:AU T p with
 | some r=>exact(F r G).symm
 | none=>
  cases hb:(T p).den (Hz (AU T)) with
  | none=>rfl
  | some r=>simp_all
structure BC (U:DD) where
 c:Code
 K:List Fr
 st:Dw U
 sk:Bool
def VU {R:Type} (out:R->SV U.Ty×BF U) (z:P->BC U):R⊕P->Y3 U
 | .inl r=>.done (out r)
 | .inr q=>.jump (z q).c (z q).K (z q).st
end
def zZ {U:DD} (rt:Nat) (r:U.Ty rt):SV U.Ty×BF U:=(U.encS rt r,[])
structure Lay where
 keep:List Nat
 fa:List (List Fk)
 fb:List Bf
 sh:Shape
section
variable {U:DD}
def yB {L:Type} (q:List Bool) (t:Tr U L):Tr U L:=match q with
 | []=>t
 | c::cs=>.chk (YB (c::cs)) t
theorem Z2S {L:Type} {q:List Bool} {t:Tr U L} {l:L} (h:(yB q t).AZ l):(∀b∈q,b=true)/\t.AZ l:=by
 cases q with
 | nil=>exact⟨by intro b hb;simp at hb,h⟩
 | cons c cs=>exact⟨Zdr h.1,h.2⟩
def layT (q:Nat) (l:Lay) (st:Dw U):Tr U (Dw U):=
 (YX l.fa l.fb q (l.keep.map fun i=>st.s.getD i .und) st.H).andThen fun r=>
  .when (r.1.take q=List.range q) (match l.sh.dec (Oa (r.1.idxOf ·) r.2.1) (YM r.2.2 r.1) with
   | some x=>yB x.2 (.leaf ⟨spread .und st.s.length l.keep (l.sh.enc x.1).1,(l.sh.enc x.1).2⟩)
   | none=>.fail)
theorem Zzh (s:List (SV U.Ty)) (keep:List Nat):Aw U (keep.map fun i=>s.getD i .und)=keep.map fun i=>(Aw U s).getD i .und:=by
 induction keep with
 | nil=>rfl
 | cons i keep q=>simp only[List.map_cons,Aw,q,<- Xg]
theorem ZEE {E:Env} (F:Du U E) {z:Nat} {l:Lay} {st st' : Dw U} (h:(layT z l st).AZ st'):∃ids as A,pack l.fa l.fb z (l.keep.map fun i=>(DI U st).s.getD i .und) (DI U st).H=some (ids,as,A)/\ids.take z=List.range z /\
  DI U st' = ⟨spread .und (DI U st).s.length l.keep (Ho (ids.idxOf ·) as),J9 A ids⟩:=by
 simp only[layT,E8,Em]at h;obtain⟨p,hp,hk,h⟩:=h;have q :=wU hp;rw[Zzh]at q;split at h
 ·rename_i x hx;obtain⟨hb,h⟩:=Z2S h;simp only[Tr.AZ]at h;subst h;obtain⟨C,D⟩:=Shape.y8 F hx hb;refine⟨_,_,_,q,hk,?_⟩;rw[Q5]at C;rw[vZ]at D;simp only[DI];rw[C,D,Jh];congr 1;rw[FH,Zy8,<- FH];rfl
 ·simp[Tr.AZ]at h
def y9 (E:Env) (fn:Func) (fa:List (List Fk)) (fb:List Bf) (k:Nat) (sh:Shape) (one:Bool) (st:Dw U):Tr U (SV U.Ty×BF U):=
 (Z5J E fn fa fb k st).andThen fun r=>match one,r.1 with
  | true,.BH _=>.fail
  | true,v=>(match sh.dec [v] r.2 with
   | some x=>yB x.2 (.leaf ((sh.enc x.1).1.headD .und,(sh.enc x.1).2))
   | none=>.fail)
  | false,.BH vs=>(match sh.dec vs r.2 with
   | some x=>yB x.2 (.leaf (.BH (sh.enc x.1).1,(sh.enc x.1).2))
   | none=>.fail)
  | false,_=>.fail
theorem ZB8 {E:Env} (C:Du U E) {fn:Func} {fa:List (List Fk)} {fb:List Bf} {k:Nat} {sh:Shape} {one:Bool} {st:Dw U} {r:SV U.Ty×BF U} (h:(y9 E fn fa fb k sh one st).AZ r):Zh E fn fa fb k (DI U st) (AY U r.1,BN U r.2):=by
 simp only[y9,E8]at h;obtain⟨q,G,h⟩:=h;have hz:=ZBW C G;have key:AY U q.1=AY U r.1/\BN U q.2=BN U r.2:=by
  split at h
  ·simp[Tr.AZ]at h
  ·split at h
   ·rename_i x hx;obtain⟨hb,h⟩:=Z2S h;simp only[Tr.AZ]at h;subst h;obtain⟨z,A⟩:=Shape.y8 C hx hb;refine⟨?_,A⟩;cases F:(sh.enc x.1).1 with
    | nil=>rw[F]at z;cases z
    | cons y ys=>
     rw[F]at z;simp only[Aw,List.cons.injEq]at z;exact z.1
   ·simp[Tr.AZ]at h
  ·rename_i vs D;split at h
   ·rename_i x hx;obtain⟨hb,h⟩:=Z2S h;simp only[Tr.AZ]at h;subst h;obtain⟨z,A⟩:=Shape.y8 C hx hb;refine⟨?_,A⟩;rw[D];simp only[AY,z]
   ·simp[Tr.AZ]at h
  ·simp[Tr.AZ]at h
 simp_all
def Eh (E:Env) (M:Iy U) (A:Nat->Option Lay) (f:FuncId) (fn:Func) (q:Nat) (D:Dw U->Tr U (SV U.Ty×BF U)):Nat->Yq->List Fr->Dw U->Bool->Tr U (Y3 U)
 | 0,_,_,_,_=>.fail
 | n+1,.run c,K,st,sk=>
  match c with
  | .skip=>Eh E M A f fn q D n .nxt K st sk
  | .region id ops draw=>
   let z:Tr U (Y3 U):=if draw then (if E.calm f id then (zA E M ops st).andThen fun st' =>Eh E M A f fn q D n .nxt K st' false else .fail)
    else (opsT E M ops (List.range ops.size) st).andThen fun st' =>Eh E M A f fn q D n .nxt K st' false
   match sk with
   | true=>z
   | false=>match A id with
    | none=>z
    | some l=>(layT q l st).andThen fun st' =>.leaf (.jump (.region id ops draw) K st')
  | .seq a b=>Eh E M A f fn q D n (.run a) (.seq b::K) st sk
  | .cond c a b=>match DY E st.s c with
   | .lit (.bool true)=>Eh E M A f fn q D n (.run a) K st sk
   | .lit (.bool false)=>Eh E M A f fn q D n (.run b) K st sk
   | .sb t=>.br t (Eh E M A f fn q D n (.run a) K st sk) (Eh E M A f fn q D n (.run b) K st sk)
   | _=>.fail
  | .block id b=>Eh E M A f fn q D n (.run b) (.blk id::K) st sk
  | .loop b=>Eh E M A f fn q D n (.run b) (.loop b::K) st sk
  | .scope b=>Eh E M A f fn q D n (.run b) K st sk
  | .label _=>Eh E M A f fn q D n .nxt K st sk
  | .exit id=>Eh E M A f fn q D n (.exit id) K st sk
  | .ret=>Eh E M A f fn q D n .ret K st sk
  | _=>.fail
 | n+1,.nxt,[],st,_=>(D st).andThen fun v=>.leaf (.done v)
 | n+1,.nxt,.seq c::K,st,sk=>Eh E M A f fn q D n (.run c) K st sk
 | n+1,.nxt,.blk _::K,st,sk=>Eh E M A f fn q D n .nxt K st sk
 | n+1,.nxt,.loop b::K,st,sk=>Eh E M A f fn q D n (.run b) (.loop b::K) st sk
 | n+1,.exit id,.blk i::K,st,sk=>if id=i then Eh E M A f fn q D n .nxt K st sk else Eh E M A f fn q D n (.exit id) K st sk
 | n+1,.exit id,_::K,st,sk=>Eh E M A f fn q D n (.exit id) K st sk
 | n+1,.exit _,[],_,_=>.fail
 | n+1,.ret,[],st,_=>(D st).andThen fun v=>.leaf (.done v)
 | n+1,.ret,_::K,st,sk=>Eh E M A f fn q D n .ret K st sk
theorem ZCH {E:Env} {M:Iy U} {A:Nat->Option Lay} {call:EM} (Q:Du U E) (hM:Og U M call) {f:FuncId} {fn:Func} {I:Nat} {D:Dw U->Tr U (SV U.Ty×BF U)} {Z:St->V×Heap->Prop} (hD:∀st s,(D st).AZ s->Z (DI U st) (AY U s.1,BN U s.2)) {r:V×Heap}:∀(n:Nat) (C:Yq) (K:List Fr) (st:Dw U) (sk:Bool) (l:Y3 U),
  (Eh E M A f fn I D n C K st sk).AZ l->ZCw call E f fn I Z l r->Dj call E f fn I Z C K (DI U st) r:=by
 intro n;induction n with
 | zero=>intro C K st sk l h;simp[Eh,Tr.AZ]at h
 | succ n q=>
  intro C K st sk l h hl;cases C with
  | run c=>
   cases c with
   | skip=>exact .skip (q _ _ _ _ _ h hl)
   | region id ops draw=>
    simp only[Eh]at h;have Y:(if draw=true then (if E.calm f id=true then (zA E M ops st).andThen fun st' =>Eh E M A f fn I D n .nxt K st' false else .fail)
      else (opsT E M ops (List.range ops.size) st).andThen fun st' =>Eh E M A f fn I D n .nxt K st' false:Tr U (Y3 U)).AZ l->Dj call E f fn I Z (.run (.region id ops draw)) K (DI U st) r:=by
     intro G;cases draw with
     | true=>
      simp only[if_true]at G
      by_cases hc:E.calm f id=true
      ·rw[if_pos hc,E8]at G;obtain⟨J,F,N⟩:=G;exact .draw hc (ZCb Q hM F) (q _ _ _ _ _ N hl)
      ·rw[if_neg hc]at G;simp[Tr.AZ]at G
     | false=>
      simp only[Bool.false_eq_true,if_false]at G;rw[E8]at G;obtain⟨J,F,N⟩:=G;exact .region (ZDv Q hM F) (q _ _ _ _ _ N hl)
    cases sk with
    | true=>exact Y h
    | false=>
     simp only at h;split at h
     ·exact Y h
     ·rename_i l' hA;simp only[E8,Tr.AZ]at h;obtain⟨J,ht,rfl⟩:=h;obtain⟨ids,as,H2,F,N,h3⟩:=ZEE Q ht;have O : Dj call E f fn I Z (.run (.region id ops draw)) K (DI U J) r:=hl;rw[h3]at O;exact .ZhL F N O
   | seq a b=>exact .seq (q _ _ _ _ _ h hl)
   | cond c a b=>
    simp only[Eh]at h;have z:ev E (DI U st).s c=AY U (DY E st.s c):=GZ E st.s c;split at h
    ·rename_i hc;rw[hc]at z;exact .cond (t:=true) z (q _ _ _ _ _ h hl)
    ·rename_i hc;rw[hc]at z;exact .cond (t:=false) z (q _ _ _ _ _ h hl)
    ·rename_i t hc;rw[hc]at z;simp only[Tr.AZ]at h;rcases h with ⟨rfl,h⟩|⟨rfl,h⟩
     ·exact .cond (t:=true) z (q _ _ _ _ _ h hl)
     ·exact .cond (t:=false) z (q _ _ _ _ _ h hl)
    ·simp[Tr.AZ]at h
   | block id b=>exact .block (q _ _ _ _ _ h hl)
   | loop b=>exact .loop (q _ _ _ _ _ h hl)
   | scope b=>exact .scope (q _ _ _ _ _ h hl)
   | label l=>exact .label (q _ _ _ _ _ h hl)
   | exit id=>exact .exit (q _ _ _ _ _ h hl)
   | ret=>exact .ret (q _ _ _ _ _ h hl)
   | _=>simp[Eh,Tr.AZ]at h
  | nxt=>
   cases K with
   | nil=>
    simp only[Eh,E8,Tr.AZ]at h;obtain⟨v,F,rfl⟩:=h;have:r=(AY U v.1,BN U v.2):=hl;rw[this];exact .finN (hD _ _ F)
   | cons x K=>
    cases x with
    | seq c=>exact .nseq (q _ _ _ _ _ h hl)
    | blk i=>exact .nblk (q _ _ _ _ _ h hl)
    | loop b=>exact .Zi7 (q _ _ _ _ _ h hl)
  | exit id=>
   cases K with
   | nil=>simp[Eh,Tr.AZ]at h
   | cons x K=>
    cases x with
    | seq c=>exact .eseq (q _ _ _ _ _ h hl)
    | blk i=>
     simp only[Eh]at h;split at h
     ·rename_i S;subst S;exact .eblk (q _ _ _ _ _ h hl)
     ·rename_i S;exact .ZhZ S (q _ _ _ _ _ h hl)
    | loop b=>exact .ZhM (q _ _ _ _ _ h hl)
  | ret=>
   cases K with
   | nil=>
    simp only[Eh,E8,Tr.AZ]at h;obtain⟨v,F,rfl⟩:=h;have:r=(AY U v.1,BN U v.2):=hl;rw[this];exact .finR (hD _ _ F)
   | cons x K=>exact .rany (q _ _ _ _ _ h hl)
theorem Zdg {R P:Type} {E:Env} {M:Iy U} {A:Nat->Option Lay} {call:EM} (S:Du U E) (Q:Og U M call) {f:FuncId} {fn:Func} {I:Nat} {D:Dw U->Tr U (SV U.Ty×BF U)} {Z:St->V×Heap->Prop} (O:∀st s,(D st).AZ s->Z (DI U st) (AY U s.1,BN U s.2))
  {out:R->SV U.Ty×BF U} {N:Nat} (T:P->Tr U (R⊕P)) (z:P->BC U)
  (h:∀p,Eh E M A f fn I D N (.run (z p).c) (z p).K (z p).st (z p).sk=(T p).map (VU out z)) {p:P} {r:R} (hr:AU T p=some r) :
  Dj call E f fn I Z (.run (z p).c) (z p).K (DI U (z p).st) (AY U (out r).1,BN U (out r).2):=by
 obtain⟨n,G⟩:=Z3H hr;clear hr;induction n generalizing p r with
 | zero=>cases G
 | succ n Y=>
  obtain⟨l,J,C⟩:=ZfT G;have F:=ZBo (g:=VU out z) J;rw[<- h p]at F;refine ZCH S Q O N _ _ _ _ _ F ?_;cases l with
  | inl a=>
   simp only[Hz,Option.some.injEq]at C;subst C;rfl
  | inr q=>exact Y C
end
def spot {U:DD} (c:Code) (p:List Nat) (n:Nat) (keep:List Nat) (e:List (SV U.Ty)×BF U):BC U:=⟨(RQ c p []).1,(RQ c p []).2,⟨spread .und n keep e.1,e.2⟩,true⟩
theorem ZfC {U:DD} {P:Program} {gl:Nat->Option (List V)} {f:FuncId} {mods:FuncId->Option (Aj U)} {hmods:FuncId->List FuncId->Option (HMod U)} {mk:Qo P} {E0:Env} (J:E0.Ey=gl) (D:Du U (EV P gl f mods hmods mk)) (G:P.follows .mixedOrders=true) {fn:Func} {c:Code}
  (O:∀g m,mods g=some m->Ai P E0 g m) (F:∀g k m,hmods g k=some m->DK P E0 g m) (M:P.funcs[f]? = some fn) (z:(fn.name == "runtime.NumGoroutine")=false) (hb:fn.body=some c) (q:Ef (EV P gl f mods hmods mk) f c=true) (m:Aj U)
  {I:Type} {A:Nat->Option Lay} {N:Nat} (T:I->Tr U (U.Ty m.rt⊕I)) (C:I->BC U)
  (h:∀p,Eh (EV P gl f mods hmods mk) (TU mods hmods mk.tab) A f fn 0 (lL (EV P gl f mods hmods mk) fn) N (.run (C p).c) (C p).K (C p).st (C p).sk=(T p).map (VU (zZ m.rt) C))
  (b0:F8 U m.ts->I) (hm:∀x,m.fn x=AU T (b0 x)) (Q:∀x,C (b0 x)=⟨c,[],kP m.ts x fn.ntmps,false⟩):Ai P E0 f m:=by
 refine fn_ok J D G O F M z hb q m fun x a hx=>?_;rw[hm]at hx;have:=Zdg D (Zhq D) (fun st s hs=>ZBm D hs) T C h hx;rw[Q]at this;simp only[zZ,D.encS]at this;exact this
theorem ZyT {U:DD} {P:Program} {gl:Nat->Option (List V)} {f:FuncId} {mods:FuncId->Option (Aj U)} {hmods:FuncId->List FuncId->Option (HMod U)} {mk:Qo P} {E0:Env} (J:E0.Ey=gl) (I:Du U (EV P gl f mods hmods mk)) (F:P.follows .mixedOrders=true) {fn:Func} {c:Code}
  (O:∀g m,mods g=some m->Ai P E0 g m) (D:∀g k m,hmods g k=some m->DK P E0 g m) (M:P.funcs[f]? = some fn) (z:(fn.name == "runtime.NumGoroutine")=false) (hb:fn.body=some c) (q:Ef (EV P gl f mods hmods mk) f c=true) (m:HMod U)
  {fa:List (List Fk)} {fb:List Bf} {k:Nat} (hk:∀x:m.Dt.X U,(m.Dt.enc x).2.length=k) {G:Type} {A:Nat->Option Lay} {N:Nat} (T:G->Tr U (U.Ty m.ky⊕G)) (C:G->BC U)
  (h:∀p,Eh (EV P gl f mods hmods mk) (TU mods hmods mk.tab) A f fn k (y9 (EV P gl f mods hmods mk) fn fa fb k m.KF m.one) N (.run (C p).c) (C p).K (C p).st (C p).sk=(T p).map (VU m.out C))
  (b0:m.Dt.X U->G) (hm:∀x:m.Dt.X U,m.fn x=AU T (b0 x)) (Q:∀x:m.Dt.X U,C (b0 x)=⟨c,[],kR (m.Dt.enc x) fn.ntmps,false⟩):DK P E0 f m:=by
 refine ZGL J I F O D M z hb q m hk (fa:=fa) (fb:=fb) fun x y hx=>?_;rw[hm]at hx;have:=Zdg I (Zhq I) (fun st s hs=>ZB8 I hs) T C h hx;rw[Q]at this;exact this
end Go.Proofs.YtjodhcdmhobmoaaGreatDoor.Le
namespace Go.Proofs.YtjodhcdmhobmoaaGreatDoor.Le
open Go.RowKit (Below)
def Jn (P:Program):TypeDesc->Option (List (Nat×TypeId))
 | .struct fs=>some (fs.toList.map fun f=>(f.offset,f.type))
 | .array n e=>some ((List.range n).map fun i=>(i*P.cellsOf e,e))
 | _=>none
def Jo (P:Program) (t:TypeId):Bool:=match P.underlying t with|some d=>d.isRow|none=>false
def Gm (P:Program):Nat->TypeId->List V->Prop
 | 0,_,_=>False
 | d+1,t,cs=>match P.underlying t with
  | some .bool=>∃b,cs=[.lit (.bool b)]
  | some (.int k)=>∃n,cs=[.lit (.int k n)]/\(Lit.int k n).wf=true
  | some .string=>∃s,cs=[.lit (.string s)]/\s.size<=maxLen
  | some (.slice e)=>∃xs,cs=[.sl false (P.cellsOf e) xs]/\xs.length<=maxLen/\∀x∈xs,(if Jo P e then ∃z,x = .agg z else x.cells=[x])/\Gm P d e x.cells
  | some q=>match Jn P q with
   | some ss=>cs.length=P.cellsOf t/\∀s∈ss,Gm P d s.2 ((cs.drop s.1).take (P.cellsOf s.2))
   | none=>False
  | none=>False
def covers (P:Program):Nat->List (Nat×TypeId)->Nat->Bool
 | off,[],n=>off==n
 | off,s::ss,n=>s.1==off&&covers P (off+P.cellsOf s.2) ss n
def VI (P:Program):Nat->TypeId->Bool
 | 0,_=>false
 | d+1,t=>match P.underlying t with
  | some .bool=>true
  | some (.int _)=>true
  | some .string=>true
  | some (.slice e)=>VI P d e&&decide (0<P.cellsOf e)
  | some q=>match Jn P q with
   | some ss=>ss.all (fun s=>VI P d s.2)&&covers P 0 ss (P.cellsOf t)
   | none=>false
  | none=>false
def Nv (w:World):Nat->Nat->Prop:=fun b c=>∃u,w.cell? ⟨b,c,none⟩=some u
structure Read (P:Program) (w:World) (d:Nat) (t:TypeId) (cs:List Value) (xs:List V):Prop where
 ED:AV (bare (Nv w)) w xs cs
 ty:Gm P d t xs
 ok:∀x∈xs,FM x=true
 one:∀u∈cs,u.oneCell' = true
theorem Zf7 {P:Program}:∀{ss:List (Nat×TypeId)} {off n:Nat},covers P off ss n=true->off<=n/\∀s∈ss,off<=s.1/\s.1+P.cellsOf s.2<=n:=by
 intro ss;induction ss with
 | nil=>intro off n h;simp only[covers,beq_iff_eq]at h;exact⟨by omega,by simp⟩
 | cons s ss q=>
  intro off n h;simp only[covers,Bool.and_eq_true,beq_iff_eq]at h
  grind
theorem ZAn {P:Program} {w:World} {d:Nat} {cs:List Value}:∀{ss:List (Nat×TypeId)} {off:Nat},covers P off ss cs.length=true->(∀s∈ss,∃xs,Read P w d s.2 ((cs.drop s.1).take (P.cellsOf s.2)) xs) ->
  ∃xs,AV (bare (Nv w)) w xs (cs.drop off)/\(∀x∈xs,FM x=true)/\(∀u∈cs.drop off,u.oneCell' = true)/\∀s∈ss,Gm P d s.2 ((xs.drop (s.1 - off)).take (P.cellsOf s.2)):=by
 intro ss;induction ss with
 | nil=>
  intro off hc _;simp only[covers,beq_iff_eq]at hc;refine⟨[],?_,by simp,?_,by simp⟩
  ·rw[hc,List.drop_length];exact .nil
  ·rw[hc,List.drop_length];simp
 | cons s ss M=>
  intro off hc h;simp only[covers,Bool.and_eq_true,beq_iff_eq]at hc;obtain⟨D,C⟩:=hc;obtain⟨x1,A⟩:=h s (by simp);obtain⟨N,q1,q2,q3,Q⟩:=M C (fun z hs' =>h z (by simp[hs']));have J:=(Zf7 C).1;rw[D]at A;have F:x1.length=P.cellsOf s.2:=by
   have:=A.ED.length;rw[List.length_take,List.length_drop]at this;omega
  have q:cs.drop off=(cs.drop off).take (P.cellsOf s.2)++cs.drop (off+P.cellsOf s.2):=by
   rw[<- List.drop_drop,List.take_append_drop]
  refine⟨x1++N,?_,?_,?_,?_⟩
  ·rw[q];exact A.ED.append q1
  ·intro x hx;rcases List.mem_append.1 hx with hx|hx
   ·exact A.ok x hx
   ·exact q2 x hx
  ·intro u hu;rw[q]at hu;rcases List.mem_append.1 hu with hu|hu
   ·exact A.one u hu
   ·exact q3 u hu
  ·intro z hs';rcases List.mem_cons.1 hs' with rfl|hs'
   ·rw[D,Nat.sub_self,List.drop_zero,List.take_append_of_le_length (by omega),List.take_of_length_le (by omega)];exact A.ty
   ·have I:=((Zf7 C).2 z hs').1;have:z.1 - off=x1.length+(z.1 - (off+P.cellsOf s.2)):=by omega
    rw[this,List.drop_append];have G:x1.drop (x1.length+(z.1 - (off+P.cellsOf s.2)))=[]:=List.drop_eq_nil_of_le (by omega);rw[G,List.nil_append];have O:x1.length+(z.1 - (off+P.cellsOf s.2)) - x1.length=z.1 - (off+P.cellsOf s.2):=by omega
    grind
def OG (P:Program) (t:TypeId) (xs:List V):V:=if Jo P t then .agg xs else xs.headD .no
def Vg (P:Program) (t:TypeId) (cs:List Value):Value:=if Jo P t then .agg cs.toArray else cs.headD undef
theorem Gm.single {P:Program} {d:Nat} {t:TypeId} {xs:List V} (h:Gm P d t xs) (hr:Jo P t=false):∃x,xs=[x]/\x.cells=[x]:=by
 cases d with
 | zero=>exact h.elim
 | succ d=>
  unfold Gm at h;unfold Jo at hr;split at h
  ·obtain⟨b,rfl⟩:=h;exact⟨_,rfl,rfl⟩
  ·obtain⟨n,rfl,_⟩:=h;exact⟨_,rfl,rfl⟩
  ·obtain⟨s,rfl,_⟩:=h;exact⟨_,rfl,rfl⟩
  ·obtain⟨ys,rfl,_⟩:=h;exact⟨_,rfl,rfl⟩
  ·rename_i A _ _ _ _ z;rw[z]at hr;split at h
   ·rename_i ss q;unfold Jn at q
    grind
   ·exact h.elim
  ·exact h.elim
theorem Read.arg {P:Program} {w:World} {d:Nat} {t:TypeId} {cs:List Value} {xs:List V} (h:Read P w d t cs xs) :
  AV (bare (Nv w)) w [OG P t xs] [Vg P t cs]/\FM (OG P t xs)=true/\(Vg P t cs).cells.toList=cs/\(OG P t xs).cells=xs/\(if Jo P t then ∃z,OG P t xs = .agg z else (OG P t xs).cells=[OG P t xs]):=by
 unfold OG Vg;cases hr:Jo P t with
 | true=>
  simp only[if_true];refine⟨?_,?_,by simp[Value.cells],rfl,⟨xs,rfl⟩⟩
  ·have:=AV.agg h.ED h.one (xs:=[]) (vs:=[]) .nil;exact this
  ·simp only[FM,okV,DC,Bool.true_and];rw[Lm];exact fun x hx=>SY (h.ok x hx)
 | false=>
  simp only[Bool.false_eq_true,if_false];obtain⟨x,rfl,hx⟩:=h.ty.single hr;obtain⟨u,us,rfl,A,C⟩:=h.ED.EN;have:us=[]:=C.Fa;subst this;refine⟨A,h.ok x (by simp),?_,hx,hx⟩;have q:=h.one u (by simp);simp only[List.headD_cons];cases u<;>simp_all [Value.cells,Value.oneCell']
section
variable {H:Type} {enc:TypeId×Value->H} {P:Program} {w:World} {base:Nat} {held:Bool}
theorem ZEf:∀(d:Nat) (t:TypeId) (n:Nat) (cs:List Value) (x:DataW H×List MemPlace),VI P d t=true->DataW.trod enc P w base (fun _=>true) held n t cs=some x->∃xs,Read P w d t cs xs:=by
 intro d;induction d with
 | zero=>intro t n cs x h;simp[VI]at h
 | succ d ih=>
  intro t n cs x hp h;unfold VI at hp;split at hp
  ·rename_i D;obtain⟨b,rfl,_⟩:=DataW.trod_bool D h;exact⟨[.lit (.bool b)],.lit rfl .nil,by unfold Gm;rw[D];exact⟨b,rfl⟩,by simp[FM,okV,DC],by simp[Value.oneCell']⟩
  ·rename_i k D;obtain⟨m,rfl,_,hw⟩:=DataW.trod_int D h;exact⟨[.lit (.int k m)],.lit (by simp[leaf,hw]) .nil,by unfold Gm;rw[D];exact⟨m,rfl,hw⟩,by simp[FM,okV,DC],by simp[Value.oneCell']⟩
  ·rename_i D;obtain⟨s,rfl,_,hs⟩:=DataW.trod_string D h;exact⟨[.lit (.string s)],.lit (by simp[leaf,hs]) .nil,by unfold Gm;rw[D];exact⟨s,rfl,hs⟩,by simp[FM,okV,DC],by simp[Value.oneCell']⟩
  ·rename_i e D;simp only[Bool.and_eq_true,decide_eq_true_eq]at hp;obtain⟨hpe,hpos⟩:=hp;have mk:∀(v:Value) (es:List V),AV (bare (Nv w)) w [.sl false (P.cellsOf e) es] [v]->v.oneCell' = true->es.length<=maxLen->(∀y∈es,FM y=true) ->
     (∀y∈es,(if Jo P e then ∃ds,y = .agg ds else y.cells=[y])/\Gm P d e y.cells)->∃xs,Read P w (d+1) t [v] xs:=by
    intro v es h1 h2 h3 h4 h5;refine⟨_,h1,?_,?_,by simpa using h2⟩
    ·unfold Gm;rw[D];exact⟨es,rfl,h3,h5⟩
    ·intro y hy;simp only[List.mem_singleton]at hy;subst hy;simp only[FM,okV,DC,Bool.true_and];rw[Lm];exact fun z hz=>SY (h4 z hz)
   rcases DataW.trod_slice D h with ⟨rfl,_⟩|⟨a,len,cap,I,rest,m,rfl,rfl,_,hb,hlc,hcm,hel,J,C,_⟩
   ·exact mk _ [] (.Eo .nil) rfl (by simp) (by simp) (by simp)
   ·obtain⟨hrl,C⟩:=C rfl
    by_cases hc0:cap=0
    ·subst hc0;have:len=0:=by omega
     subst this;exact mk _ [] (.GI a .nil) rfl (by simp) (by simp) (by simp)
    ·
     have M:a.spot=none:=by
      have N:∃c0,w.cells? base (a.add 0) (P.cellsOf e)=some c0:=by
       by_cases S:0<len
       ·have:=J 0 S;rw[Nat.zero_mul]at this;have A:0<I.length:=by omega
        rw[List.getElem?_eq_getElem A]at this;cases F:w.cells? base (a.add 0) (P.cellsOf e) with
        | none=>simp[F]at this
        | some c0=>exact⟨c0,rfl⟩
       ·have S:len=0:=by omega
        subst S;have:=C 0 (by omega);simp only[Nat.zero_add,Nat.zero_mul]at this;have A:0<rest.length:=by omega
        rw[List.getElem?_eq_getElem A]at this;cases F:w.cells? base (a.add 0) (P.cellsOf e) with
        | none=>simp[F]at this
        | some c0=>exact⟨c0,rfl⟩
      obtain⟨c0,hc0'⟩:=N;obtain⟨_,e2,e3⟩:=World.cells?_some hc0';have:=e3 0 hpos;have A:0<c0.length:=by omega
      rw[List.getElem?_eq_getElem A]at this;simp only[Addr.add,if_true]at this;unfold World.cell? at this;split at this
      ·simp_all
      ·cases this
     obtain⟨ab,ao,as⟩:=a;simp only at M;subst M;have each:∀i,i<len->∃ci xi,w.cells? base (Addr.add ⟨ab,ao,none⟩ (i*P.cellsOf e)) (P.cellsOf e)=some ci/\Read P w d e ci xi:=by
      intro i hi;have:=J i hi;have A:i<I.length:=by omega
      rw[List.getElem?_eq_getElem A]at this;cases F:w.cells? base (Addr.add ⟨ab,ao,none⟩ (i*P.cellsOf e)) (P.cellsOf e) with
      | none=>simp[F]at this
      | some ci=>
       grind
     have list:∀k,k<=len->∃(es:List V) (us:List Value),es.length=k/\AV (bare (Nv w)) w es us/\(∀y∈es,FM y=true)/\(∀u∈us,u.cells.size=P.cellsOf e)/\(∀u∈flat us,u.oneCell' = true) /\
       (∀y∈es,(if Jo P e then ∃ds,y = .agg ds else y.cells=[y])/\Gm P d e y.cells)/\(∀j u,(flat us)[j]? = some u->w.cell? ⟨ab,ao+j,none⟩=some u):=by
      intro k;induction k with
      | zero=>intro _;exact⟨[],[],rfl,.nil,by simp,by simp,by simp[flat],by simp,by simp[flat]⟩
      | succ k ihk=>
       intro hk;obtain⟨es,us,l1,l2,l3,l4,l5,l6,l7⟩:=ihk (by omega);obtain⟨ci,xi,hci,hr⟩:=each k (by omega);obtain⟨a1,a2,a3,a4,a5⟩:=hr.arg;obtain⟨_,c2,c3⟩:=World.cells?_some hci;have hsz:(Vg P e ci).cells.size=P.cellsOf e:=by
        have:=congrArg List.length a3;simpa[c2]using this
       refine⟨es++[OG P e xi],us++[Vg P e ci],by simp[l1],l2.append a1,?_,?_,?_,?_,?_⟩
       ·grind
       ·grind
       ·intro u hu;rw[PI]at hu;rcases List.mem_append.1 hu with hu|hu
        ·exact l5 u hu
        ·rw[O3,a3]at hu;exact hr.one u hu
       ·intro y hy;rcases List.mem_append.1 hy with hy|hy
        ·exact l6 y hy
        ·rw[List.mem_singleton.1 hy];exact⟨a5,by rw[a4];exact hr.ty⟩
       ·intro j u Q;rw[PI,O3,a3]at Q;have hfl:(flat us).length=k*P.cellsOf e:=by rw[flat_length l4,<- l2.length,l1]
        by_cases A:j<(flat us).length
        ·grind
        ·rw[List.getElem?_append_right (by omega)]at Q;have hjl:j - (flat us).length<P.cellsOf e:=by
          have:=(List.getElem?_eq_some_iff.1 Q).1;omega
         have:=c3 _ hjl;rw[Q]at this;rw[<- this];congr 1;have hadd:Addr.add (Addr.add ⟨ab,ao,none⟩ (k*P.cellsOf e)) (j - (flat us).length)=⟨ab,ao+j,none⟩:=by
          simp only[Addr.add];split<;>split<;>simp<;>omega
         rw[hadd]
     obtain⟨es,us,l1,l2,l3,l4,l5,l6,l7⟩:=list len (Nat.le_refl _);subst l1;refine mk _ es ?_ rfl (by omega) l3 l6;exact .sl ab ao cap (P.cellsOf e) l2 l3 l4 l5 hlc hcm (fun j u Q=>⟨⟨u,l7 j u Q⟩,l7 j u Q⟩) .nil
  ·rename_i dd _ _ _ _ D;split at hp
   ·rename_i ss G;simp only[Bool.and_eq_true,List.all_eq_true]at hp;obtain⟨hall,hcov⟩:=hp;have Y:cs.length=P.cellsOf t/\∀s∈ss,∃xs,Read P w d s.2 ((cs.drop s.1).take (P.cellsOf s.2)) xs:=by
     cases dd with
     | struct fs=>
      simp only[Jn,Option.some.injEq]at G;obtain⟨xs,m,_,_,q,hxl,hf⟩:=DataW.trod_struct D h;refine⟨q,fun s hs=>?_⟩;have hs' :=hs;rw[<- G]at hs;obtain⟨f,hfm,rfl⟩:=List.mem_map.1 hs;obtain⟨i,hi,hfi⟩:=List.getElem_of_mem hfm;have hfi' : fs[i]? = some f:=by simp at hi;rw[Array.getElem?_eq_getElem hi];simp at hfi;rw[hfi]
      grind
     | array n' e=>
      simp only[Jn,Option.some.injEq]at G;obtain⟨xs,m,_,_,q,hxl,hf⟩:=DataW.trod_array D h
      grind
     | _=>simp[Jn]at G
    obtain⟨q,O⟩:=Y;obtain⟨xs,h1,h2,h3,h4⟩:=ZAn (by rw[q];exact hcov) O;rw[List.drop_zero]at h1 h3;refine⟨xs,h1,?_,h2,h3⟩;unfold Gm;rw[D];simp only[Nat.sub_zero]at h4;split<;>first|(rename_i F;simp only[Option.some.injEq]at F;subst F;simp[Jn]at G;done)|skip
    ·rename_i F;simp only[Option.some.injEq]at F;subst F;rw[G];exact⟨by rw[h1.length];exact q,h4⟩
    ·rename_i F;cases F
   ·cases hp
  ·cases hp
inductive jR (P:Program) (d:Nat):List TypeId->List V->Prop where
 | nil:jR P d [] []
 | cons {t ts xs as}:Gm P d t xs->jR P d ts as->jR P d (t::ts) (OG P t xs::as)
theorem ZxK {r:Reach} {b0:Nat} {d:Nat} {t:TypeId} {v:Value} {xs:List V} (hv:Value.okWide P w r b0 t v) (h:Read P w d t v.cells.toList xs):Vg P t v.cells.toList=v:=by
 unfold Vg;cases hr:Jo P t with
 | true=>
  simp only[if_true];unfold Jo at hr;split at hr
  ·rename_i A q;unfold Value.okWide at hv;rw[q]at hv;cases A<;>simp[TypeDesc.isRow]at hr
   ·obtain⟨cs,rfl,_⟩:=hv;simp[Value.cells]
   ·obtain⟨cs,rfl,_⟩:=hv;simp[Value.cells]
  ·cases hr
 | false=>
  simp only[Bool.false_eq_true,if_false];obtain⟨x,rfl,_⟩:=h.ty.single hr;have z:∀cs,v≠.agg cs:=by
   rintro cs rfl
   unfold Jo at hr;unfold Value.okWide at hv;split at hv
   ·rename_i q;rw[q]at hr;simp[TypeDesc.isRow]at hr
   ·rename_i q;rw[q]at hr;simp[TypeDesc.isRow]at hr
   ·unfold Cell.okWide at hv;split at hv<;>simp_all [Cell.ok]
  cases v<;>first|rfl|exact absurd rfl (z _)
theorem ZEr {d:Nat}:∀{ts:List TypeId} {vs:List Value} {z:List (DataW H)} {ps:List MemPlace},DataW.TrodAll enc P w base (fun _=>true) held ts vs z ps->(∀t∈ts,VI P d t=true) ->
  (∀(j:Nat) t v,ts[j]? = some t->vs[j]? = some v->∃r b0,Value.okWide P w r b0 t v)->∃as,AV (bare (Nv w)) w as vs/\jR P d ts as:=by
 intro ts;induction ts with
 | nil=>
  intro vs z ps h _ _;cases vs with
  | nil=>exact⟨[],.nil,.nil⟩
  | cons v vs=>cases z<;>exact h.elim
 | cons t ts N=>
  intro vs z ps h hp hv;cases vs with
  | nil=>exact h.elim
  | cons v vs=>
   cases z with
   | nil=>exact h.elim
   | cons S z=>
    obtain⟨p,q,⟨fuel,I⟩,J,_⟩:=h;obtain⟨as,O,Q⟩:=N J (fun F D =>hp F (by simp[D])) (fun j F v' M A =>hv (j+1) F v' (by simpa using M) (by simpa using A));obtain⟨xs,hx⟩:=ZEf d t fuel _ _ (hp t (by simp)) I;obtain⟨r,b0,C⟩:=hv 0 t v rfl rfl;have G:=hx.arg.1;rw[ZxK C hx]at G;exact⟨_,AV.FZ.2 ⟨G,O⟩,.cons hx.ty Q⟩
end
end Go.Proofs.YtjodhcdmhobmoaaGreatDoor.Le
namespace Go.Proofs.YtjodhcdmhobmoaaGreatDoor.Le
open Go.RowKit (Below)
open Go.ChangeShapes
structure DT (P:Program) {Ty:Nat->Type} {T:Type} (c:AL Ty T) (t:TypeId) (wf:T->Prop):Prop where
 rd:∀(d:Nat) (xs:List V),Gm P d t xs->∃a,c.BD a=xs/\wf a
structure Dq (P:Program) {Ty:Nat->Type} {T:Type} (c:AL Ty T) (ss:List (Nat×TypeId)) (off n:Nat) (wf:T->Prop):Prop where
 rd:∀(d:Nat) (xs:List V),xs.length=n->(∀s∈ss,Gm P d s.2 ((xs.drop s.1).take (P.cellsOf s.2)))->∃a,c.BD a=xs.drop off/\wf a
def WI (k:IntKind) (a:Int):Prop:=(Lit.int k a).wf=true
def WB (_:Bool):Prop:=True
def WS (s:ByteArray):Prop:=s.size<=maxLen
def WL {α:Type} (p:α->Prop) (xs:List α):Prop:=xs.length<=maxLen/\∀x∈xs,p x
def WU (_:Unit):Prop:=True
section
variable {P:Program} {Ty:Nat->Type} {T:Type}
theorem DT.int {k:IntKind} {t:TypeId} (q:P.underlying t=some (.int k)):DT P (AL.int k:AL Ty Int) t (WI k):=by
 refine⟨fun d xs h=>?_⟩;cases d with
 | zero=>exact h.elim
 | succ d=>
  unfold Gm at h;rw[q]at h;obtain⟨n,rfl,hw⟩:=h;exact⟨n,rfl,hw⟩
theorem DT.bool {t:TypeId} (q:P.underlying t=some .bool):DT P (AL.bool:AL Ty Bool) t WB:=by
 refine⟨fun d xs h=>?_⟩;cases d with
 | zero=>exact h.elim
 | succ d=>
  unfold Gm at h;rw[q]at h;obtain⟨n,rfl⟩:=h;exact⟨n,rfl,trivial⟩
theorem DT.str {t:TypeId} (q:P.underlying t=some .string):DT P (AL.str:AL Ty ByteArray) t WS:=by
 refine⟨fun d xs h=>?_⟩;cases d with
 | zero=>exact h.elim
 | succ d=>
  unfold Gm at h;rw[q]at h;obtain⟨n,rfl,hw⟩:=h;exact⟨n,rfl,hw⟩
theorem Zgs {α:Type} {p:α->Prop} {e:α->V}:∀{xs:List V},(∀x∈xs,∃a,e a=x/\p a)->∃as:List α,as.map e=xs/\∀a∈as,p a:=by
 intro xs;induction xs with
 | nil=>simp_all
 | cons x xs C=>
  intro h;obtain⟨a,q,hp⟩:=h x (by simp);obtain⟨as,has,z⟩:=C (fun y A=>h y (by simp[A]));refine⟨a::as,by simp[q,has],fun b hb=>?_⟩
  grind
theorem DT.rows {t e n:Nat} {c:AL Ty (Ty e)} {wf:Ty e->Prop} (F:P.underlying t=some (.slice e)) (D:P.cellsOf e=n) (hr:Jo P e=true) (hc:DT P c e wf) :
  DT P (AL.list e n (fun a=>.agg (c.BD a)):AL Ty (List (Ty e))) t (WL wf):=by
 refine⟨fun d xs h=>?_⟩;cases d with
 | zero=>exact h.elim
 | succ d=>
  unfold Gm at h;rw[F]at h;obtain⟨ys,rfl,hl,G⟩:=h;obtain⟨as,has,hp⟩:=Zgs (p:=wf) (e:=fun a=>V.agg (c.BD a)) (xs:=ys) (fun y q =>by
   obtain⟨z,A⟩:=G y q;rw[if_pos hr]at z;obtain⟨I,rfl⟩:=z;obtain⟨a,C,hw⟩:=hc.rd d _ A;exact⟨a,by rw[C];rfl,hw⟩)
  subst D;exact⟨as,by simp only[AL.list,has],by grind,hp⟩
theorem DT.ones {t e n:Nat} {c:AL Ty (Ty e)} {wf:Ty e->Prop} (F:P.underlying t=some (.slice e)) (D:P.cellsOf e=n) (hr:Jo P e=false) (hc:DT P c e wf) :
  DT P (AL.list e n (fun a=>c.BU a):AL Ty (List (Ty e))) t (WL wf):=by
 refine⟨fun d xs h=>?_⟩;cases d with
 | zero=>exact h.elim
 | succ d=>
  unfold Gm at h;rw[F]at h;obtain⟨ys,rfl,hl,G⟩:=h;obtain⟨as,has,hp⟩:=Zgs (p:=wf) (e:=fun a=>c.BU a) (xs:=ys) (fun y q =>by
   obtain⟨z,A⟩:=G y q;rw[if_neg (by simp[hr])]at z;obtain⟨a,C,hw⟩:=hc.rd d _ A;exact⟨a,by simp only[AL.BU,C,z];rfl,hw⟩)
  subst D;exact⟨as,by simp only[AL.list,has],by grind,hp⟩
theorem Dq.unit {off n:Nat} (h:off=n):Dq P (AL.unit:AL Ty Unit) [] off n WU:=by
 refine⟨fun d xs hl _=>⟨(),?_,trivial⟩⟩;subst h;rw[<- hl,List.drop_length];rfl
theorem Dq.pair {A B:Type} {a:AL Ty A} {b:AL Ty B} {t off n k:Nat} {ss:List (Nat×TypeId)} {C:A->Prop} {D:B->Prop} (F:DT P a t C) (hk:P.cellsOf t=k) (hb:Dq P b ss (off+k) n D) :
  Dq P (AL.pair a b) ((off,t)::ss) off n (fun x=>C x.1/\D x.2):=by
 refine⟨fun d xs hl h=>?_⟩;obtain⟨x,hx,q⟩:=F.rd d _ (h (off,t) (by simp));obtain⟨y,G,z⟩:=hb.rd d xs hl (fun s hs=>h s (by simp[hs]));refine⟨(x,y),?_,q,z⟩;simp only[AL.pair,hx,G];rw[hk,<- List.drop_drop,List.take_append_drop]
theorem DT.row {c:AL Ty T} {t n:Nat} {q:TypeDesc} {ss:List (Nat×TypeId)} {wf:T->Prop} (C:P.underlying t=some q) (z:Jn P q=some ss) (A:P.cellsOf t=n) (h:Dq P c ss 0 n wf):DT P c t wf:=by
 refine⟨fun d xs hx=>?_⟩;cases d with
 | zero=>exact hx.elim
 | succ d=>
  unfold Gm at hx;rw[C]at hx;have key:xs.length=P.cellsOf t/\∀s∈ss,Gm P d s.2 ((xs.drop s.1).take (P.cellsOf s.2)):=by
   cases q with
   | struct fs=>simp_all
   | array m e=>simp_all
   | _=>simp[Jn]at z
  obtain⟨a,D,hw⟩:=h.rd d xs (key.1.trans A) key.2
  grind
theorem DT.Cj {A B:Type} {f:A->B} {g:B->A} {b:AL Ty B} {t:TypeId} {wf:B->Prop} (hb:DT P b t wf) (q:∀y,f (g y)=y):DT P (AL.Cj f g b) t (fun x=>wf (f x)):=by
 refine⟨fun d xs h=>?_⟩;obtain⟨y,z,hw⟩:=hb.rd d xs h;exact⟨g y,by simp only[AL.Cj,q];exact z,by rw[q];exact hw⟩
end
structure RJ (P:Program) (U:DD) (t:TypeId) (wf:U.Ty t->Prop):Prop where
 rd:∀d xs,Gm P d t xs->∃a,U.enc t a=OG P t xs/\wf a
theorem RJ.rows {P:Program} {U:DD} {t:TypeId} {c:AL U.Ty (U.Ty t)} {wf:U.Ty t->Prop} (hr:Jo P t=true) (hc:DT P c t wf) (z:∀a,U.enc t a = .agg (c.BD a)):RJ P U t wf:=by
 refine⟨fun d xs h=>?_⟩;obtain⟨a,q,hw⟩:=hc.rd d xs h;exact⟨a,by rw[z,q];simp[OG,hr],hw⟩
theorem RJ.ones {P:Program} {U:DD} {t:TypeId} {c:AL U.Ty (U.Ty t)} {wf:U.Ty t->Prop} (hr:Jo P t=false) (hc:DT P c t wf) (z:∀a,U.enc t a=c.BU a):RJ P U t wf:=by
 refine⟨fun d xs h=>?_⟩;obtain⟨a,q,hw⟩:=hc.rd d xs h;exact⟨a,by rw[z];simp[OG,hr,AL.BU,q],hw⟩
inductive QA (P:Program) (U:DD):(ts:List Nat)->(F8 U ts->Prop)->Prop where
 | nil:QA P U [] (fun _=>True)
 | cons {t ts wf W}:RJ P U t wf->QA P U ts W->QA P U (t::ts) (fun x=>wf x.1/\W x.2)
theorem ZC6 {P:Program} {U:DD} {ts:List Nat} {W:F8 U ts->Prop} (h:QA P U ts W):∀{d:Nat} {as:List V},jR P d ts as->∃x:F8 U ts,Hf ts x=as/\W x:=by
 induction h with
 | nil=>intro d as q;cases q;exact⟨(),rfl,trivial⟩
 | cons D _ F=>
  intro d as q;cases q with
  | cons z A=>
   obtain⟨a,q,hw⟩:=D.rd _ _ z;obtain⟨x,hx,C⟩:=F A;exact⟨(a,x),by simp[Hf,q,hx],hw,C⟩
section
variable {H:Type} {enc:TypeId×Value->H} {P:Program}
theorem ZaF {W G : World} {I:Nat->Bool} (hl:laidOutB P=true):∀{ts:List TypeId} {vs:List Value} {C:List (DataW H)} {ps:List MemPlace},(∀t∈ts,P.readableRec t=true/\t<P.types.size) ->
  DataW.TrodAll enc P W 0 (fun _=>true) true ts vs C ps->Below W.heap.size W G -> (∀p∈ps,p.block<W.heap.size)->(∀p∈ps,I p.block=true)->DataW.TrodAll enc P G 0 I true ts vs C ps
 | [],[],[],_,_,h,_,_,_=>h
 | t::ts,v::vs,d::C,_,D,⟨p,q,J,M,e⟩,hb,z,A=>
  ⟨p,q,WideElems.Trod_stays hl (D t (by simp)).1 (D t (by simp)).2 J (fun x hx=>hb.same (z x (by simp_all))) (fun x hx=>A x (by simp_all)),
   ZaF hl (fun t F =>D t (by simp[F])) M hb (fun x hx=>z x (by simp_all)) (fun x hx=>A x (by simp_all)),e⟩
theorem ZCo {f:Func} {s:ChangeSpec} {apart fresh A I:Bool} {W W' : World} {args:Array Value} {D z:List (DataW H)} {before:List MemPlace} {tb:TypeId} (hl:laidOutB P=true) (hts:∀t∈f.params.toList,P.readableRec t=true/\t<P.types.size)
  (S:DataW.Whole enc P f.params.toList s.vars apart W args.toList D z before) (hb:Below W.heap.size W W') (hr:f.resultTypes = #[tb]) (O:P.underlying tb=some .bool)
  (h1:(s.fn H (D++z)).results=[.lit (.bool true)]) (h2:(s.fn H (D++z)).args=D) (h3:(s.fn H (D++z)).vars=z)
  (hvars:∀(pv:List MemPlace),DataW.TrodVars enc P W (fun _=>true) s.vars z pv->(∀p∈pv,p.block<W.heap.size)->∀q:Nat->Bool,(∀p∈pv,q p.block=true)->DataW.TrodVars enc P W' q s.vars z pv) :
  s.post enc P f apart fresh A I W args (.bool true) W' :=by
 have J:=S.lt;have Y:=S;obtain⟨pa,pv,hA,hV,hps,hz,hn⟩:=S;have F:∀p∈before,(fun b=>decide (b<W.heap.size)) p.block=true:=fun p hp=>by simpa using J p hp
 have M:∀p∈pa,p∈before:=fun p hp=>by simp_all
 have hpv:∀p∈pv,p∈before:=fun p hp=>by simp_all
 have C:∀q:Nat->Bool,(∀p∈before,q p.block=true)->DataW.TrodAll enc P W' 0 q true f.params.toList args.toList (s.fn H (D++z)).args pa:=fun q N=>by
  rw[h2];exact ZaF hl hts hA hb (fun p hp=>J p (M p hp)) (fun p hp=>N p (M p hp))
 have Q:∀q:Nat->Bool,(∀p∈before,q p.block=true)->DataW.TrodVars enc P W' q s.vars (s.fn H (D++z)).vars pv:=fun q N=>by
  simp_all
 have G:∀(b:Nat) (q:Nat->Bool) (hd:Bool),DataW.TrodAll enc P W' b q hd f.resultTypes.toList ((Value.bool true).resultList f.resultTypes.size) (s.fn H (D++z)).results []:=fun b q hd=>by
  rw[h1,hr];exact trodAll_cons_mk (p:=[]) (p' :=[]) (RowKit.shut_bool O _) trodAll_mk0
 refine⟨D,z,before,[],pa,pv,Y,G _ _ _,C _ F,Q _ F,World.keptBut_mono (fun p hp=>⟨hp,?_⟩) (hb.frame (·∈before)),fun _=>?_⟩
 ·simp_all
 ·refine⟨RowKit.ok_one hr rfl (RowKit.okWide_bool_mk O _),_,_,([]++pa)++pv,⟨[]++pa,pv,trodAll_append (C _ (fun _ _=>rfl)) (G _ _ _),Q _ (fun _ _=>rfl),rfl,?_,?_⟩,?_⟩
  ·intro b off hp;have hm:MemPlace.cell b off∈before:=by rw[hps];simpa using hp
   rw[hb.frozen (p:=⟨b,off,none⟩) (J _ hm)];exact hz b off hm
  ·simp_all
  simp_all
theorem ZEP {U:DD} {E0:Env} {f:FuncId} {fn:Func} {m:Aj U} {s:ChangeSpec} {apart fresh z F:Bool} {tb:TypeId} (hok:Ai P E0 f m) {Wf:F8 U m.ts->Prop} (hrd:QA P U m.ts Wf) (D:fn.params.toList=m.ts) {d:Nat} (hpl:∀t∈m.ts,VI P d t=true)
  (hl:laidOutB P=true) (hts:∀t∈m.ts,P.readableRec t=true/\t<P.types.size) (hr:fn.resultTypes = #[tb]) (htb:P.underlying tb=some .bool) {tt:U.Ty m.rt} (htt:U.enc m.rt tt = .lit (.bool true)) (N:∀x,Wf x->m.fn x=some tt)
  (M:∀(C q:List (DataW H)),C.length=m.ts.length->q.length=s.vars.length->(s.fn H (C++q)).results=[.lit (.bool true)]/\(s.fn H (C++q)).args=C/\(s.fn H (C++q)).vars=q)
  {W:World} {args:Array Value} {C q:List (DataW H)} {A:List MemPlace} (S:∀(j:Nat) t v,fn.params[j]? = some t->args[j]? = some v->∃r b0,Value.okWide P W r b0 t v)
  (hW:DataW.Whole enc P fn.params.toList s.vars apart W args.toList C q A) (hg:EH E0 (bare (Nv W)) W)
  (O:∀(W' : World),Below W.heap.size W W' -> ∀(Y:List MemPlace),DataW.TrodVars enc P W (fun _=>true) s.vars q Y->(∀p∈Y,p.block<W.heap.size)->∀sp:Nat->Bool,(∀p∈Y,sp p.block=true)->DataW.TrodVars enc P W' sp s.vars q Y)
  (hdl:C.length=m.ts.length) (hgl:q.length=s.vars.length) :
  Calls P f args W fun e W' =>∃v,e = .returned v/\s.post enc P fn apart fresh z F W args v W' :=by
 have hW0:=hW;obtain⟨pa,Y,hA,hV,hps,hz,hn⟩:=hW;rw[D]at hA;obtain⟨as,J,I⟩:=ZEr hA hpl (fun j t v hj hv=>S j t v (by grind) (by simp_all));obtain⟨x,hx,hwf⟩:=ZC6 hrd I;have G:=hok.pure x tt (N x hwf) (Nv W) W args.toList (fun b c hh=>hh) hg (by rw[hx];exact J);refine G.mono ?_
 rintro e W' ⟨u,fz',rfl,hb,_,_,_,Q,_⟩
 rw[htt]at Q;cases Q with
 | lit _ _=>
  obtain⟨s1,s2,s3⟩:=M C q hdl hgl;exact⟨_,rfl,ZCo hl (by rw[D];exact hts) hW0 hb hr htb s1 s2 s3 (O W' hb)⟩
end
end Go.Proofs.YtjodhcdmhobmoaaGreatDoor.Le
