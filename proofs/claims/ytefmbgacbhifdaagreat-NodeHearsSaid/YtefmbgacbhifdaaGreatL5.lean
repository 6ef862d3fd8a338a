/-
  A part of the proof.
-/
import Derived.Test.YtefmbgacbhifdaaGreatL4
import Derived.OpenShut
import Derived.Carry
import Derived.ProofKit
namespace Go.Proofs.YtefmbgacbhifdaaGreat.Le
open Go.RowKit (Below)
structure ZCt (k : Nat) (ids : List Nat) (st st' : St) : Prop where
 nodup : ids.Nodup
 pre : ids.take k = List.range k
 len : st'.H.length = ids.length
 heap : ∀ (j id : Nat), ids[j]? = some id -> ∃ b b', st.H[id]? = some b /\ b.live = true /\ st'.H[j]? = some b' /\ b'.live = true /\ b'.row = b.row /\ (b'.Zco = true -> b.Zco = true) /\ b'.elem = b.elem /\ b'.esz = b.esz /\
  (b.floor <= b'.floor \/ b'.floor = b'.xs.length) /\ b'.floor <= b'.xs.length /\ (b.row = true -> b'.xs = b.xs) /\ (b.row = false -> b'.xs = Z94 (ids.idxOf ·) b.xs /\ ∀ r ∈ Z0u b.xs, r ∈ ids)
 slen : st'.s.length = st.s.length
 slots : ∀ (i : Nat) (v' : V), st'.s[i]? = some v' -> v' = .und \/ ∃ v, st.s[i]? = some v /\ v' = Zia (ids.idxOf ·) v /\ ∀ r ∈ Z3x v, r ∈ ids
theorem ZnE {σ : Sg} {w : World} : ∀ {xs : List V} {vs : List Value}, xs.length = vs.length -> (∀ (i : Nat) (x : V) (v : Value), xs[i]? = some x -> vs[i]? = some v -> Zv σ w [x] [v]) -> Zv σ w xs vs := by
 intro xs
 induction xs with
 | nil => intro vs hl _; cases vs with | nil => exact .nil | cons => simp at hl
 | cons x xs ih =>
  intro vs hl h
  cases vs with
  | nil => simp at hl
  | cons v vs => exact Zv.Z0Q.2 ⟨h 0 x v rfl rfl, ih (by simpa using hl) (fun i y u h1 h2 => h (i + 1) y u (by simpa using h1) (by simpa using h2))⟩
theorem ZBb {E : Env} {B : Nat} {w0 : Start} {σ : Sg} {st st' : St} {a : Act} {w : World} {k : Nat} {ids : List Nat} (ht : ZCt k ids st st') (h : Rel E B w0 σ st a w) : Rel E B w0 (σ.ren ids) st' a w := by
 have hbox : ∀ {j : Nat} {L : Loc}, (σ.ren ids).box j = some L -> ∃ id, ids[j]? = some id /\ σ.box id = some L := by
  intro j L hL
  simp only [Sg.ren] at hL
  cases hj : ids[j]? with
  | none => simp [hj] at hL
  | some id => simp only [hj, Option.bind_some] at hL; exact ⟨id, rfl, hL⟩
 have hsome : ∀ {j : Nat} {b' : Box}, st'.H[j]? = some b' -> ∃ id, ids[j]? = some id := by
  intro j b' hb
  have hlt := (List.getElem?_eq_some_iff.1 hb).1
  rw [ht.len] at hlt
  exact ⟨ids[j], List.getElem?_eq_getElem hlt⟩
 refine ⟨⟨h.inv.below, h.inv.size, ?_, ?_, ?_, h.inv.cells, ?_, ?_, h.inv.old, fun b hb => ?_⟩, h.Zcy.bare (fun b c hh => ⟨hh, rfl⟩), ?_, h.calm⟩
 ·intro j L hL
  obtain ⟨id, h1, h2⟩ := hbox hL
  obtain ⟨b, b', _, _, q1, q2, _⟩ := ht.heap j id h1
  exact ⟨b', q1, q2⟩
 ·intro j b' hb hl
  obtain ⟨id, hid⟩ := hsome hb
  obtain ⟨b, b2, p1, p2, p3, p4, p5, p6, p7, p8, p9, p10, p11, p12⟩ := ht.heap j id hid
  rw [hb] at p3
  cases p3
  obtain ⟨L, hL, hok⟩ := h.inv.boxes id b p1 p2
  obtain ⟨us, r1, r2, r3, r4⟩ := hok.Z93
  refine ⟨L, by simp [Sg.ren, hid, hL], ?_⟩
  have hlen : b'.xs.length = b.xs.length := by
   cases hr : b.row with
   | true => rw [p11 hr]
   | false => rw [(p12 hr).1, Zd6]
  have hreps : Zv (σ.ren ids) w b'.xs us := by
   cases hr : b.row with
   | true => rw [p11 hr]; exact r1.bare (fun b c hh => ⟨hh, rfl⟩) ((Z2d _).2 (hok.fzs hr))
   | false => rw [(p12 hr).1]; exact Zg0 r1 (p12 hr).2
  refine ⟨by rw [hlen]; exact hok.tot, ⟨us, hreps, r2, r3, by rw [p7, hlen]; exact r4⟩, fun hn => hok.Zco (p6 hn), by rw [p8]; exact hok.esz, ?_, ?_⟩
  ·intro x hx
   cases hr : b.row with
   | true => rw [p11 hr] at hx; exact hok.oks x hx
   | false =>
    rw [(p12 hr).1, ZlU] at hx
    obtain ⟨y, hy, rfl⟩ := List.mem_map.1 hx
    rw [ZvV]
    exact hok.oks y hy
  ·intro hr x hx
   rw [p5] at hr
   rw [p11 hr] at hx
   exact hok.fzs hr x hx
 ·intro j j' b1 b2 L1 L2 g h1 h2 l1 l2 s1 s2 g1 g2
  obtain ⟨i1, e1, t1⟩ := hbox s1
  obtain ⟨i2, e2, t2⟩ := hbox s2
  obtain ⟨c1, _, p1, p2, _⟩ := ht.heap j i1 e1
  obtain ⟨c2, _, q1, q2, _⟩ := ht.heap j' i2 e2
  have := h.inv.apart i1 i2 c1 c2 L1 L2 g p1 q1 p2 q2 t1 t2 g1 g2
  subst this
  exact ZlG ht.nodup e1 e2
 ·intro b c hc j b' L hb hl hL hg
  obtain ⟨id, hid, hL'⟩ := hbox hL
  obtain ⟨b0, b2, p1, p2, p3, p4, p5, p6, p7, p8, p9, p10, p11, p12⟩ := ht.heap j id hid
  rw [hb] at p3
  cases p3
  have := h.inv.floor b c hc id b0 L p1 p2 hL' hg
  have hlen : b'.xs.length = b0.xs.length := by
   cases hr : b0.row with
   | true => rw [p11 hr]
   | false => rw [(p12 hr).1, Zd6]
  have hle : b0.floor <= b'.floor := by
   rcases p9 with p9 | p9
   ·exact p9
   ·rw [p9, hlen]; exact h.inv.low id b0 p1 p2
  exact Nat.lt_of_lt_of_le this (Nat.mul_le_mul_right _ hle)
 ·intro j b' hb hl
  obtain ⟨id, hid⟩ := hsome hb
  obtain ⟨b0, b2, p1, p2, p3, p4, p5, p6, p7, p8, p9, p10, p11, p12⟩ := ht.heap j id hid
  rw [hb] at p3
  cases p3
  exact p10
 ·obtain ⟨k1, k2, k3, k4⟩ := h.inv.kept b hb
  refine ⟨k1, k2, fun j L hL hg => ?_, k4⟩
  obtain ⟨id, hid, hL'⟩ := hbox hL
  exact k3 id L hL' hg
 ·refine ZnE (by rw [ht.slen]; exact h.slots.length) (fun i x v hx hv => ?_)
  rcases ht.slots i x hx with rfl | ⟨y, hy, rfl, hc⟩
  ·exact .und _ .nil
  ·obtain ⟨u, hu, hr⟩ := h.slots.get hy
   rw [hv] at hu
   cases hu
   exact Zg0 hr (by simpa [Z0u] using hc)
def spread {α : Type} (u : α) (n : Nat) : List Nat -> List α -> List α
 | k :: ks, v :: vs => (spread u n ks vs).set k v
 | _, _ => List.replicate n u
theorem Zpo {α : Type} (u : α) (n : Nat) : ∀ (ks : List Nat) (vs : List α), (spread u n ks vs).length = n := by
 intro ks
 induction ks with
 | nil => intro vs; simp [spread]
 | cons k ks ih => intro vs; cases vs <;> simp [spread, ih]
theorem ZtM {α : Type} (u : α) (n : Nat) : ∀ (ks : List Nat) (vs : List α) (i : Nat) (x : α), (spread u n ks vs)[i]? = some x -> x = u \/ ∃ j : Nat, ks[j]? = some i /\ vs[j]? = some x := by
 intro ks
 induction ks with
 | nil =>
  intro vs i x h
  simp only [spread, List.getElem?_replicate] at h
  split at h
  ·exact .inl (Option.some.inj h).symm
  ·cases h
 | cons k ks ih =>
  intro vs i x h
  cases vs with
  | nil =>
   simp only [spread, List.getElem?_replicate] at h
   split at h
   ·exact .inl (Option.some.inj h).symm
   ·cases h
  | cons v vs =>
   simp only [spread, List.getElem?_set] at h
   split at h
   ·rename_i hk
    subst hk
    split at h
    ·exact .inr ⟨0, rfl, h⟩
    ·cases h
   ·rcases ih vs i x h with h | ⟨j, h1, h2⟩
    ·exact .inl h
    ·exact .inr ⟨j + 1, h1, h2⟩
theorem Zv8 {α β : Type} (g : α -> β) (u : α) (n : Nat) : ∀ (ks : List Nat) (vs : List α), (spread u n ks vs).map g = spread (g u) n ks (vs.map g) := by
 intro ks
 induction ks with
 | nil => intro vs; simp [spread]
 | cons k ks ih => intro vs; cases vs <;> simp [spread, List.map_set, ih]
theorem Zvm {σ : Sg} {w : World} {xs : List V} {vs : List Value} (h : Zv σ w xs vs) : ∀ keep : List Nat, Zv σ w (keep.map fun i => xs.getD i .und) (keep.map fun i => vs.getD i undef) := by
 intro keep
 induction keep with
 | nil => exact .nil
 | cons i keep ih =>
  simp only [List.map_cons]
  refine Zv.Z0Q.2 ⟨?_, ih⟩
  cases hx : xs[i]? with
  | none => simp only [List.getD, hx, Option.getD_none]; exact .und _ .nil
  | some x =>
   obtain ⟨v, hv, hr⟩ := h.get hx
   simp only [List.getD, hx, hv, Option.getD_some]
   exact hr
theorem Zze {E : Env} {B : Nat} {w0 : Start} {σ : Sg} {st : St} {a : Act} {w : World} {k : Nat} {fa : List (List Fk)} {fb : List Bf} {keep ids : List Nat} {as : List V} {H2 : Heap} (hp : pack fa fb k (keep.map fun i => st.s.getD i .und) st.H = some (ids, as, H2))
  (h : Rel E B w0 σ st a w) : ∃ σ1, Ext σ w σ1 w /\ Rel E B w0 (σ1.ren ids) ⟨spread .und st.s.length keep (Z94 (ids.idxOf ·) as), Zrm H2 ids⟩ a w := by
 obtain ⟨hs, hm, _, σ1, hI1, hE1, hr1⟩ := ZsB h.inv (Zvm h.slots keep) hp
 have hsub := ZxA hI1 hs w0 hI1.below hI1.old (fun b hb => by
  obtain ⟨k1, k2, k3, k4⟩ := hI1.kept b hb
  exact ⟨k1, k2, fun id _ L hL => k3 id L hL, k4⟩)
 refine ⟨σ1, hE1, hsub, (h.Zcy.ext hE1).bare (fun b c hh => ⟨hh, rfl⟩), ?_, h.calm⟩
 refine ZnE (by rw [Zpo]; exact h.slots.length) (fun i x v hx hv => ?_)
 rcases ZtM _ _ _ _ i x hx with rfl | ⟨j, h1, h2⟩
 ·exact .und _ .nil
 ·obtain ⟨u, hu, hr⟩ := (Zg0 hr1 hm).get h2
  simp only [List.getElem?_map, h1, Option.map_some, List.getD, hv, Option.getD_some, Option.some.injEq] at hu
  subst hu
  exact hr
inductive Ctl where
 | run (c : Code) | nxt | exit (id : Nat) | ret
inductive Fr where
 | seq (c : Code) | blk (id : Nat) | loop (b : Code)
def Z6O : List (List Nat) -> List V -> List V
 | es :: rs, v :: vs => Z0Y es v :: Z6O rs vs
 | [], vs => vs
 | _, [] => []
def ZcZ (rs : List (List Nat)) : V -> V
 | .tup vs => .tup (Z6O rs vs)
 | v => Z0Y (rs.headD []) v
inductive Z1C (call : Z1Y) (E : Env) (f : FuncId) (fn : Func) (k : Nat) (Z : St -> V × Heap -> Prop) : Ctl -> List Fr -> St -> V × Heap -> Prop where
 | skip {K st r} : Z1C call E f fn k Z .nxt K st r -> Z1C call E f fn k Z (.run .skip) K st r
 | region {id ops K st st' r} : Zvk call E ops (List.range ops.size) st = some st' -> Z1C call E f fn k Z .nxt K st' r -> Z1C call E f fn k Z (.run (.region id ops false)) K st r
 | draw {id ops K st st' r} : E.calm f id = true -> ZsA call E ops st = some st' -> Z1C call E f fn k Z .nxt K st' r -> Z1C call E f fn k Z (.run (.region id ops true)) K st r
 | seq {a b K st r} : Z1C call E f fn k Z (.run a) (.seq b :: K) st r -> Z1C call E f fn k Z (.run (.seq a b)) K st r
 | cond {c a b t K st r} : ev E st.s c = .lit (.bool t) -> Z1C call E f fn k Z (.run (if t then a else b)) K st r -> Z1C call E f fn k Z (.run (.cond c a b)) K st r
 | block {id b K st r} : Z1C call E f fn k Z (.run b) (.blk id :: K) st r -> Z1C call E f fn k Z (.run (.block id b)) K st r
 | loop {b K st r} : Z1C call E f fn k Z (.run b) (.loop b :: K) st r -> Z1C call E f fn k Z (.run (.loop b)) K st r
 | exit {id K st r} : Z1C call E f fn k Z (.exit id) K st r -> Z1C call E f fn k Z (.run (.exit id)) K st r
 | ret {K st r} : Z1C call E f fn k Z .ret K st r -> Z1C call E f fn k Z (.run .ret) K st r
 | nseq {c K st r} : Z1C call E f fn k Z (.run c) K st r -> Z1C call E f fn k Z .nxt (.seq c :: K) st r
 | nblk {id K st r} : Z1C call E f fn k Z .nxt K st r -> Z1C call E f fn k Z .nxt (.blk id :: K) st r
 | ZCi {b K st r} : Z1C call E f fn k Z (.run b) (.loop b :: K) st r -> Z1C call E f fn k Z .nxt (.loop b :: K) st r
 | ZDl {id c K st r} : Z1C call E f fn k Z (.exit id) K st r -> Z1C call E f fn k Z (.exit id) (.seq c :: K) st r
 | ZBF {id b K st r} : Z1C call E f fn k Z (.exit id) K st r -> Z1C call E f fn k Z (.exit id) (.loop b :: K) st r
 | eblk {id K st r} : Z1C call E f fn k Z .nxt K st r -> Z1C call E f fn k Z (.exit id) (.blk id :: K) st r
 | ZCM {id i K st r} : id ≠ i -> Z1C call E f fn k Z (.exit id) K st r -> Z1C call E f fn k Z (.exit id) (.blk i :: K) st r
 | rany {x K st r} : Z1C call E f fn k Z .ret K st r -> Z1C call E f fn k Z .ret (x :: K) st r
 | finN {st r} : Z st r -> Z1C call E f fn k Z .nxt [] st r
 | finR {st r} : Z st r -> Z1C call E f fn k Z .ret [] st r
 | tidy {ctl K ids st st' r} : ZCt k ids st st' -> Z1C call E f fn k Z ctl K st' r -> Z1C call E f fn k Z ctl K st r
 | ZC6 {ctl K fa fb keep ids as H2 st r} : pack fa fb k (keep.map fun i => st.s.getD i .und) st.H = some (ids, as, H2) -> ids.take k = List.range k -> Z1C call E f fn k Z ctl K ⟨spread .und st.s.length keep (Z94 (ids.idxOf ·) as), Zrm H2 ids⟩ r -> Z1C call E f fn k Z ctl K st r
def LoopIn (P : Program) (b : Code) (Q : Exit -> Act -> World -> Prop) (a : Act) (w : World) : Prop :=
 ∀ fr k cs, ∃ e a' w', Q e a' w' /\ Arrives P (lone (fr.at a (.code b :: .inLoop b :: k)) cs w) fr k cs e a' w'
theorem LoopIn.of {P : Program} {b : Code} {Q : Exit -> Act -> World -> Prop} {a : Act} {w : World} (h : b.wp P (Exit.then (LoopIn P b Q) Q) a w) : LoopIn P b Q a w := by
 intro fr k cs
 obtain ⟨e, a₁, w₁, hq, harr⟩ := h fr (.inLoop b :: k) cs
 cases e with
 | normal =>
  obtain ⟨e₂, a₂, w₂, hq₂, harr₂⟩ := hq fr k cs
  exact ⟨e₂, a₂, w₂, hq₂, .of_steps (Steps.trans harr (.one step_inLoop)) harr₂⟩
 | exit id => exact ⟨_, a₁, w₁, hq, .pass (x := .inLoop b) rfl (fun _ _ => .inl (by simp)) harr⟩
 | goto l => exact ⟨_, a₁, w₁, hq, .pass (x := .inLoop b) rfl (fun _ _ => .inl (by simp)) harr⟩
 | ret => exact ⟨_, a₁, w₁, hq, .pass (x := .inLoop b) rfl (fun _ _ => .inl (by simp)) harr⟩
 | panic ch => exact ⟨_, a₁, w₁, hq, .pass (x := .inLoop b) rfl (fun _ _ => .inl (by simp)) harr⟩
 | outgrown => exact ⟨_, a₁, w₁, hq, .pass (x := .inLoop b) rfl (fun _ _ => .inl (by simp)) harr⟩
theorem LoopIn.wp {P : Program} {b : Code} {Q : Exit -> Act -> World -> Prop} {a : Act} {w : World} (h : LoopIn P b Q a w) : (Code.loop b).wp P Q a w := by
 intro fr k cs
 obtain ⟨e, a', w', hq, harr⟩ := h fr k cs
 exact ⟨e, a', w', hq, .of_steps (.one step_loop) harr⟩
def QK (P : Program) (Z : Act -> World -> Prop) : List Fr -> Exit -> Act -> World -> Prop
 | [], .normal, a, w => Z a w
 | [], .ret, a, w => Z a w
 | [], _, _, _ => False
 | .seq c :: K, e, a, w => Exit.then (c.wp P (QK P Z K)) (QK P Z K) e a w
 | .blk id :: K, e, a, w => Exit.inBlock id (QK P Z K) e a w
 | .loop b :: K, e, a, w => Exit.then (LoopIn P b (QK P Z K)) (QK P Z K) e a w
def ZAg (P : Program) (Z : Act -> World -> Prop) (K : List Fr) (a : Act) (w : World) : Ctl -> Prop
 | .run c => c.wp P (QK P Z K) a w
 | .nxt => QK P Z K .normal a w
 | .exit id => QK P Z K (.exit id) a w
 | .ret => QK P Z K .ret a w
def Zli (E : Env) (f : FuncId) : Ctl -> Bool
 | .run c => Z5L E f c
 | _ => true
def Zj9 (E : Env) (f : FuncId) : List Fr -> Bool
 | [] => true
 | .seq c :: K => Z5L E f c && Zj9 E f K
 | .loop c :: K => Z5L E f c && Zj9 E f K
 | .blk _ :: K => Zj9 E f K
theorem Zoa {σ w} : ∀ (rs : List (List Nat)) {xs : List V} {vs : List Value}, Zv σ w xs vs -> Zv σ w (Z6O rs xs) vs := by
 intro rs
 induction rs with
 | nil => intro xs vs h; simpa [Z6O] using h
 | cons r rs ih =>
  intro xs vs h
  cases xs with
  | nil => simpa [Z6O] using h
  | cons x xs =>
   obtain ⟨v, vs', rfl, h1, h2⟩ := h.ZL
   exact Zv.Z0Q.2 ⟨Z4Z _ h1, ih h2⟩
theorem Zrh {σ w x v} (rs : List (List Nat)) (h : Zv σ w [x] [v]) : Zv σ w [ZcZ rs x] [v] := by
 unfold ZcZ
 split
 ·cases h with
  | tup h1 _ => exact .tup (Zoa rs h1) .nil
 ·exact Z4Z _ h
theorem ZmE : ∀ (rs : List (List Nat)) (xs : List V), ZH (Z6O rs xs) = ZH xs := by
 intro rs
 induction rs with
 | nil => intro xs; simp [Z6O]
 | cons r rs ih => intro xs; cases xs <;> simp [Z6O, ZH, Z3A, ih]
theorem Zg7 (rs : List (List Nat)) (x : V) (h : Z05 x = true) : Z05 (ZcZ rs x) = true := by
 unfold ZcZ
 split
 ·simpa [Z05, ZmE] using h
 ·rw [Z3A]; exact h
def Zp (E : Env) (fn : Func) (st : St) (r : V × Heap) : Prop := ∃ r0 r1, Z46 E st.H st.s fn.results.toList = some r0 /\ Zt2 st.H r0 = some r1 /\ r = (ZcZ (fn.resultTypes.toList.map E.rows) r1, [])
def Zh (E : Env) (fn : Func) (fa : List (List Fk)) (fb : List Bf) (k : Nat) (st : St) (r : V × Heap) : Prop := ∃ r0, Z46 E st.H st.s fn.results.toList = some r0 /\ ZyJ fa fb k r0 st.H = some r
def Fin (P : Program) (fn : Func) (B : Nat) (w0 : Start) (r : V × Heap) (a : Act) (w : World) : Prop :=
 a.defers = [] /\ ∃ u fz', (results fn a.tmps).run P w = .ok u w /\ Below B w0.w w /\ (∀ b c, w0.fz b c -> fz' b c) /\ (∀ b c, fz' b c -> b < B -> w0.fz b c) /\ (∀ b c, fz' b c -> ∃ u, w.cell? ⟨b, c, none⟩ = some u) /\ Zv (bare fz') w [r.1] [u] /\ Z05 r.1 = true
def FinH (P : Program) (fn : Func) (B : Nat) (w0 : Start) (σ0 : Sg) (ws : World) (r : V × Heap) (a : Act) (w : World) : Prop :=
 a.defers = [] /\ ∃ u σ', (results fn a.tmps).run P w = .ok u w /\ Inv B w0 σ' r.2 w /\ Ext σ0 ws σ' w /\ Zv σ' w [r.1] [u]
structure ZxU (k : Nat) (σ : Sg) (w : World) (σ' : Sg) (w' : World) : Prop where
 box : ∀ id L, id < k -> σ.box id = some L -> ∃ L', σ'.box id = some L' /\ L'.esz = L.esz /\ (L' = L \/ L.tot < L'.tot)
 fz : ∀ b c, σ.fz b c -> σ'.fz b c /\ w'.cell? ⟨b, c, none⟩ = w.cell? ⟨b, c, none⟩
theorem Ext.k {k : Nat} {σ w σ' w'} (h : Ext σ w σ' w') : ZxU k σ w σ' w' := ⟨fun id L _ hL => h.box id L hL, h.fz⟩
theorem ZxU.trans {k : Nat} {σ w σ' w' σ'' w''} (h : ZxU k σ w σ' w') (g : Ext σ' w' σ'' w'') : ZxU k σ w σ'' w'' := by
 refine ⟨fun id L hk hL => ?_, fun b c hc => ?_⟩
 ·obtain ⟨L', h1, h2, h3⟩ := h.box id L hk hL
  obtain ⟨L'', k1, k2, k3⟩ := g.box id L' h1
  refine ⟨L'', k1, k2.trans h2, ?_⟩
  rcases h3 with rfl | h3
  ·exact k3
  ·rcases k3 with rfl | k3
   ·exact .inr h3
   ·exact .inr (Nat.lt_trans h3 k3)
 ·obtain ⟨a1, a2⟩ := h.fz b c hc
  obtain ⟨b1, b2⟩ := g.fz b c a1
  exact ⟨b1, b2.trans a2⟩
theorem Zun {ids : List Nat} {k j : Nat} (h : ids.take k = List.range k) (hj : j < k) : ids[j]? = some j := by
 have : (ids.take k)[j]? = some j := by rw [h]; simp [hj]
 rw [List.getElem?_take] at this
 simpa [hj] using this
theorem ZxU.ren {k : Nat} {σ w σ' w'} {ids : List Nat} (h : ZxU k σ w σ' w') (hp : ids.take k = List.range k) : ZxU k σ w (σ'.ren ids) w' := by
 refine ⟨fun id L hk hL => ?_, h.fz⟩
 obtain ⟨L', h1, h2⟩ := h.box id L hk hL
 exact ⟨L', by simp only [Sg.ren, Zun hp hk, Option.bind_some]; exact h1, h2⟩
section
variable {P : Program} {E : Env} {B : Nat} {w0 : Start} {call : Z1Y} {f : FuncId} {fn : Func}
theorem ZCr (hE : Z15 E) (hP : E.P = P) {σ : Sg} {st : St} {a : Act} {w : World} {r : V × Heap} (h : Rel E B w0 σ st a w) (hfz : ∀ b c, w0.fz b c -> σ.fz b c) (hz : Zp E fn st r) : Fin P fn B w0 r a w := by
 obtain ⟨r0, r1, hr, hf, rfl⟩ := hz
 obtain ⟨u, hu, hur⟩ := ZdH (P := P) hE hP h.inv h.slots hr
 obtain ⟨hI, hEx⟩ := h.inv.freeze (ZxX r0)
 have hr2 := ZkI h.inv hur hf (ZxX r0) (fun i hi => hi)
 have hn := Ziq h.inv hur hf
 refine ⟨h.calm, u, (σ.freeze st.H (ZxX r0)).fz, hu, hI.below, fun b c hh => (hEx.fz b c (hfz b c hh)).1, fun b c hh hlt => hI.old b c hh hlt, hI.cells, ?_, Zg7 _ _ hn⟩
 exact Zv.bare (Zrh _ hr2) (fun b c hh => ⟨hh, rfl⟩) (by simp [ZH, Zg7 _ _ hn])
theorem ZAN (hE : Z15 E) (hP : E.P = P) {fa : List (List Fk)} {fb : List Bf} {k : Nat} {σ0 : Sg} {ws : World} (h0 : ∀ id L, σ0.box id = some L -> id < k) {σ : Sg} {st : St} {a : Act} {w : World} {r : V × Heap} (h : Rel E B w0 σ st a w) (hx : ZxU k σ0 ws σ w)
  (hz : Zh E fn fa fb k st r) : FinH P fn B w0 σ0 ws r a w := by
 obtain ⟨r0, hr, he⟩ := hz
 obtain ⟨u, hu, hur⟩ := ZdH (P := P) hE hP h.inv h.slots hr
 have key : ∀ {args as : List V} {vs : List Value} {ids : List Nat} {H2 : Heap}, Zv σ w args vs -> pack fa fb k args st.H = some (ids, as, H2) -> ids.take k = List.range k ->
   ∃ σ', Inv B w0 σ' (Zrm H2 ids) w /\ Ext σ0 ws σ' w /\ Zv σ' w (Z94 (ids.idxOf ·) as) vs := by
  intro args as vs ids H2 hra hp hk
  obtain ⟨hs, hm, _, σ1, hI1, hE1, hr1⟩ := ZsB h.inv hra hp
  have hsub := ZxA hI1 hs w0 hI1.below hI1.old (fun b hb => by
   obtain ⟨k1, k2, k3, k4⟩ := hI1.kept b hb
   exact ⟨k1, k2, fun id _ L hL => k3 id L hL, k4⟩)
  refine ⟨_, hsub, ?_, Zg0 hr1 hm⟩
  have := (hx.trans hE1).ren hk
  exact ⟨fun id L hL => this.box id L (h0 id L hL) hL, this.fz⟩
 refine ⟨h.calm, u, ?_⟩
 unfold ZyJ at he
 split at he
 ·rename_i vs
  split at he
  ·rename_i ids as H2 hp
   split at he
   ·rename_i hk
    simp only [Option.some.injEq] at he
    subst he
    cases hur with
    | tup h1 _ =>
     obtain ⟨σ', i1, i2, i3⟩ := key h1 hp hk
     exact ⟨σ', hu, i1, i2, .tup i3 .nil⟩
   ·cases he
  ·cases he
 ·split at he
  ·rename_i ids x H2 hp
   split at he
   ·rename_i hk
    simp only [Option.some.injEq] at he
    subst he
    obtain ⟨σ', i1, i2, i3⟩ := key hur hp hk
    exact ⟨σ', hu, i1, i2, i3⟩
   ·cases he
  ·cases he
theorem ZvU (hE : Z15 E) (hP : E.P = P) (hcall : Z8h P E B w0 call) (hpure : Z9V E call) {k : Nat} {Z : St -> V × Heap -> Prop} {F : V × Heap -> Act -> World -> Prop} {σ0 : Sg} {ws : World}
  (hZ : ∀ st r σ a w, Z st r -> Rel E B w0 σ st a w -> ZxU k σ0 ws σ w -> F r a w) {ctl : Ctl} {K : List Fr} {st : St} {r : V × Heap} (h : Z1C call E f fn k Z ctl K st r) :
  Zli E f ctl = true -> Zj9 E f K = true -> ∀ (σ : Sg) (a : Act) (w : World), Rel E B w0 σ st a w -> ZxU k σ0 ws σ w -> ZAg P (F r) K a w ctl := by
 induction h with
 | skip h ih => intro hc hk σ a w hr hf; exact wp_skip (ih rfl hk σ a w hr hf)
 | region hs h ih =>
  intro hc hk σ a w hr hf
  exact wp_region (ZwY hE hP hcall _ _ σ a w hr hs (fun a' w' σ' hr' he' => ih rfl hk σ' a' w' hr' (hf.trans he')))
 | draw hcalm hs h ih =>
  intro hc hk σ a w hr hf
  refine Zxr hE hP (by rw [<- hP]; exact hE.mix) hcall hpure ?_ hr hs (fun a' w' σ' hr' he' => ih rfl hk σ' a' w' hr' (hf.trans he'))
  simpa [Zli, Z5L, hcalm] using hc
 | seq h ih =>
  intro hc hk σ a w hr hf
  simp only [Zli, Z5L, Bool.and_eq_true] at hc
  exact wp_seq (ih hc.1 (by simp [Zj9, hc.2, hk]) σ a w hr hf)
 | cond ht h ih =>
  rename_i c x y t K st r
  intro hc hk σ a w hr hf
  simp only [Zli, Z5L, Bool.and_eq_true] at hc
  have hv := Z0E (a := a) hr.Zcy hr.slots c
  rw [ht] at hv
  have hb : a.eval c = .bool t := by generalize a.eval c = v at hv; cases hv; rfl
  refine wp_cond hb ?_
  refine ih ?_ hk σ a w hr hf
  cases t
  ·exact hc.2
  ·exact hc.1
 | block h ih =>
  intro hc hk σ a w hr hf
  exact wp_block (ih hc hk σ a w hr hf)
 | loop h ih =>
  intro hc hk σ a w hr hf
  simp only [Zli, Z5L] at hc
  exact (LoopIn.of (ih hc (by simp [Zj9, hc, hk]) σ a w hr hf)).wp
 | exit h ih => intro hc hk σ a w hr hf; exact wp_exit (ih rfl hk σ a w hr hf)
 | ret h ih => intro hc hk σ a w hr hf; exact wp_ret (ih rfl hk σ a w hr hf)
 | nseq h ih =>
  intro hc hk σ a w hr hf
  simp only [Zj9, Bool.and_eq_true] at hk
  exact ih hk.1 hk.2 σ a w hr hf
 | nblk h ih => intro hc hk σ a w hr hf; exact ih rfl hk σ a w hr hf
 | ZCi h ih =>
  intro hc hk σ a w hr hf
  have hk' := hk
  simp only [Zj9, Bool.and_eq_true] at hk'
  exact LoopIn.of (ih hk'.1 hk σ a w hr hf)
 | ZDl h ih =>
  intro hc hk σ a w hr hf
  simp only [Zj9, Bool.and_eq_true] at hk
  exact ih rfl hk.2 σ a w hr hf
 | ZBF h ih =>
  intro hc hk σ a w hr hf
  simp only [Zj9, Bool.and_eq_true] at hk
  exact ih rfl hk.2 σ a w hr hf
 | eblk h ih =>
  intro hc hk σ a w hr hf
  have := ih rfl hk σ a w hr hf
  simp only [ZAg, QK, Exit.inBlock, if_true]
  exact this
 | ZCM hne h ih =>
  intro hc hk σ a w hr hf
  have := ih rfl hk σ a w hr hf
  simp only [ZAg, QK, Exit.inBlock, hne, if_false]
  exact this
 | rany h ih =>
  rename_i x K st r
  intro hc hk σ a w hr hf
  have : Zj9 E f K = true := by cases x <;> simp_all [Zj9]
  have := ih rfl this σ a w hr hf
  cases x <;> exact this
 | finN hz => intro hc hk σ a w hr hf; exact hZ _ _ σ a w hz hr hf
 | finR hz => intro hc hk σ a w hr hf; exact hZ _ _ σ a w hz hr hf
 | tidy ht h ih => intro hc hk σ a w hr hf; exact ih hc hk _ a w (ZBb ht hr) (hf.ren ht.pre)
 | ZC6 hp hpre h ih =>
  intro hc hk σ a w hr hf
  obtain ⟨σ1, h1, h2⟩ := Zze hp hr
  exact ih hc hk _ a w h2 ((hf.trans h1).ren hpre)
end
end Go.Proofs.YtefmbgacbhifdaaGreat.Le
namespace Go.Proofs.YtefmbgacbhifdaaGreat.Le
open Go.RowKit (Below)
section
variable {U : Z9c}
def Zni : List Bool -> Bool
 | [] => true
 | [b] => b
 | b :: bs => b && Zni bs
theorem Znd : ∀ {l : List Bool}, Zni l = true -> ∀ b ∈ l, b = true := by
 intro l
 induction l with
 | nil => intro _ b hb; simp at hb
 | cons x xs ih =>
  intro h b hb
  cases xs with
  | nil => simp only [Zni] at h; simp only [List.mem_singleton] at hb; rw [hb]; exact h
  | cons y ys =>
   simp only [Zni, Bool.and_eq_true] at h
   rcases List.mem_cons.1 hb with hb | hb
   ·rw [hb]; exact h.1
   ·exact ih h.2 b hb
def resT (E : Env) (H : ZE U) (s : List (SV U.Ty)) : ResultVar -> Tr U (SV U.Ty)
 | .tmp t => .leaf (s.getD t .und)
 | .cell a t => loadT E H t (s.getD a .und)
def ZtV (E : Env) (H : ZE U) (s : List (SV U.Ty)) : List ResultVar -> Tr U (List (SV U.Ty))
 | [] => .leaf []
 | r :: rs => (resT E H s r).andThen fun v => (ZtV E H s rs).andThen fun vs => .leaf (v :: vs)
def Zlt : List Nat -> List (SV U.Ty) -> Option (List (SV U.Ty))
 | [], [] => some []
 | t :: ts, w :: ws => match U.Zpw t w, Zlt ts ws with | some a, some r => some (U.encS t a :: r) | _, _ => none
 | _, _ => none
def ZAT (E : Env) (fn : Func) (st : SSt U) : Tr U (SV U.Ty) :=
 (ZtV E st.H st.s fn.results.toList).andThen fun vs =>
  match vs, fn.resultTypes.toList with
  | [v], [t] => (ZzI st.H v).andThen fun w => (match U.Zpw t w with | some a => .leaf (U.encS t a) | none => .fail)
  | vs, ts => .when (vs.length ≠ 1) ((ZbB st.H vs).andThen fun ws => (match Zlt ts ws with | some es => .leaf (.tup es) | none => .fail))
theorem Ztz {E : Env} (hU : Z0n U E) {st : SSt U} : ∀ {rs : List ResultVar} {vs : List (SV U.Ty)}, (ZtV E st.H st.s rs).Zz vs -> rs.mapM (resD E (Z45 U st).H (Z45 U st).s) = some (ZY U vs) := by
 intro rs
 induction rs with
 | nil => intro vs h; simp only [ZtV, Tr.Zz] at h; subst h; rfl
 | cons r rs ih =>
  intro vs h
  simp only [ZtV, Zy, Tr.Zz] at h
  obtain ⟨v, h1, ws, h2, rfl⟩ := h
  have hr : resD E (Z45 U st).H (Z45 U st).s r = some (toV U v) := by
   cases r with
   | tmp t =>
    simp only [resT, Tr.Zz] at h1
    subst h1
    exact congrArg some (ZcR st.s t)
   | cell a t =>
    simp only [resD]
    rw [show (Z45 U st).s.getD a .und = toV U (st.s.getD a .und) from ZcR st.s a]
    exact ZsU hU h1
  rw [List.mapM_cons, hr, ih h2]
  rfl
theorem Zvy {E : Env} (hU : Z0n U E) : ∀ {ts : List Nat} {ws es : List (SV U.Ty)}, Zlt ts ws = some es -> Z6O (ts.map E.rows) (ZY U ws) = ZY U es := by
 intro ts
 induction ts with
 | nil =>
  intro ws es h
  cases ws with
  | nil => simp only [Zlt, Option.some.injEq] at h; subst h; rfl
  | cons => simp [Zlt] at h
 | cons t ts ih =>
  intro ws es h
  cases ws with
  | nil => simp [Zlt] at h
  | cons w ws =>
   simp only [Zlt] at h
   split at h
   ·rename_i a r h1 h2
    simp only [Option.some.injEq] at h
    subst h
    simp only [List.map_cons, ZY, Z6O, hU.dec _ _ _ h1, hU.encS, ih h2]
   ·cases h
theorem ZAy {H : Heap} {x y : V} (h : frz H x = some y) : ∀ vs, y ≠ .tup vs := by
 intro vs hy
 subst hy
 unfold frz at h
 split at h
 ·rename_i cs
  cases hl : ZrA H cs <;> simp [hl] at h
 ·unfold Zn8 at h
  split at h <;> (try (cases h; done)) <;> (try (split at h <;> (try (split at h)) <;> cases h))
theorem Zz4 {E : Env} (hU : Z0n U E) {fn : Func} {st : SSt U} {v : SV U.Ty} (h : (ZAT E fn st).Zz v) :
  ∃ r0 r1, Z46 E (Z45 U st).H (Z45 U st).s fn.results.toList = some r0 /\ Zt2 (Z45 U st).H r0 = some r1 /\ ZcZ (fn.resultTypes.toList.map E.rows) r1 = toV U v := by
 unfold ZAT at h
 simp only [Zy] at h
 obtain ⟨vs, h1, h⟩ := h
 have hm := Ztz hU h1
 split at h
 ·rename_i v0 t hts
  simp only [Zy] at h
  obtain ⟨w, h2, h⟩ := h
  split at h
  ·rename_i a ha
   simp only [Tr.Zz] at h
   subst h
   have hf : frz (Z45 U st).H (toV U v0) = some (toV U w) := Zpr h2
   refine ⟨toV U v0, toV U w, by simp only [Z46, hm, ZY], ?_, ?_⟩
   ·unfold Zt2
    split
    ·rename_i us hus
     rw [hus] at hf
     simp [frz, Zn8] at hf
    ·exact hf
   ·rw [hts]
    unfold ZcZ
    split
    ·rename_i us hus
     exact absurd hus (ZAy hf us)
    ·simp only [List.map_cons, List.headD_cons, hU.dec _ _ _ ha, hU.encS]
  ·simp [Tr.Zz] at h
 ·rename_i va vs ts hneg
  simp only [ZZ, Zy] at h
  obtain ⟨hl, ws, h2, h⟩ := h
  split at h
  ·rename_i es hes
   simp only [Tr.Zz] at h
   subst h
   refine ⟨.tup (ZY U va), .tup (ZY U ws), ?_, ?_, ?_⟩
   ·simp only [Z46, hm]
    split
    ·rename_i x hx
     simp only [Option.some.injEq] at hx
     exfalso
     apply hl
     have := congrArg List.length hx
     rw [Z0p] at this
     simpa using this
    ·rename_i hx
     simp only [Option.some.injEq] at hx
     rw [<- hx]
    ·rename_i hx; cases hx
   ·simp only [Zt2, Z45, ZhE h2, Option.map_some]
   ·simp only [ZcZ, Zvy hU hes, toV]
  ·simp [Tr.Zz] at h
def ZyM (E : Env) (fn : Func) (st : SSt U) : Tr U (SV U.Ty × ZE U) := (ZAT E fn st).andThen fun v => .leaf (v, [])
def ZzZ (E : Env) (fn : Func) (fa : List (List Fk)) (fb : List Bf) (k : Nat) (st : SSt U) : Tr U (SV U.Ty × ZE U) :=
 (ZtV E st.H st.s fn.results.toList).andThen fun vs =>
  match vs with
  | [.tup _] => .fail
  | [.raw _] => .fail
  | [v] => (ZtS fa fb k [v] st.H).andThen fun r => (match r.2.1 with
   | [a] => .when (r.1.take k = List.range k) (.leaf (Z7C (r.1.idxOf ·) a, ZtY r.2.2 r.1))
   | _ => .fail)
  | vs => .when (vs.length ≠ 1) ((ZtS fa fb k vs st.H).andThen fun r => .when (r.1.take k = List.range k) (.leaf (.tup (ZeK (r.1.idxOf ·) r.2.1), ZtY r.2.2 r.1)))
theorem Zz7 {E : Env} (hU : Z0n U E) {fn : Func} {st : SSt U} {r : SV U.Ty × ZE U} (h : (ZyM E fn st).Zz r) : Zp E fn (Z45 U st) (toV U r.1, toH U r.2) := by
 simp only [ZyM, Zy, Tr.Zz] at h
 obtain ⟨v, h1, rfl⟩ := h
 obtain ⟨r0, r1, e1, e2, e3⟩ := Zz4 hU h1
 exact ⟨r0, r1, e1, e2, by rw [e3]; rfl⟩
theorem Zz1 {E : Env} (hU : Z0n U E) {fn : Func} {fa : List (List Fk)} {fb : List Bf} {k : Nat} {st : SSt U} {r : SV U.Ty × ZE U} (h : (ZzZ E fn fa fb k st).Zz r) : Zh E fn fa fb k (Z45 U st) (toV U r.1, toH U r.2) := by
 simp only [ZzZ, Zy] at h
 obtain ⟨vs, h1, h⟩ := h
 have hm := Ztz hU h1
 split at h
 ·simp [Tr.Zz] at h
 ·simp [Tr.Zz] at h
 ·rename_i v hn1 hn2
  simp only [Zy] at h
  obtain ⟨p, hp, h⟩ := h
  split at h
  ·rename_i a ha
   simp only [ZZ, Tr.Zz] at h
   obtain ⟨hk, rfl⟩ := h
   have hp' := ZjW hp
   rw [ha] at hp'
   refine ⟨toV U v, by simp only [Z46, hm, ZY], ?_⟩
   have hnt : ∀ cs, toV U v ≠ .tup cs := by
    intro cs hcs
    cases v with
    | tup vs => exact hn1 vs rfl
    | raw x => exact hn2 x rfl
    | _ => simp [toV] at hcs
   unfold ZyJ
   split
   ·rename_i cs hcs; exact absurd hcs (hnt cs)
   ·simp only [ZY] at hp'
    simp only [Z45, hp']
    rw [if_pos hk, ZjX, ZgE]
  ·simp [Tr.Zz] at h
 ·rename_i hneg
  simp only [ZZ, Zy, Tr.Zz] at h
  obtain ⟨hl, p, hp, hk, rfl⟩ := h
  have hp' := ZjW hp
  refine ⟨.tup (ZY U vs), ?_, ?_⟩
  ·simp only [Z46, hm]
   split
   ·rename_i x hx
    simp only [Option.some.injEq] at hx
    exfalso
    apply hl
    have := congrArg List.length hx
    rw [Z0p] at this
    simpa using this
   ·rename_i hx
    simp only [Option.some.injEq] at hx
    rw [<- hx]
   ·rename_i hx; cases hx
  ·simp only [ZyJ, Z45, hp']
   rw [if_pos hk, ZgE]
   simp only [toV, Z6U]
inductive ZBu (U : Z9c) where
 | done (v : SV U.Ty × ZE U)
 | jump (c : Code) (K : List Fr) (st : SSt U)
def ZyA (call : Z1Y) (E : Env) (f : FuncId) (fn : Func) (kk : Nat) (Z : St -> V × Heap -> Prop) : ZBu U -> V × Heap -> Prop
 | .done s, v => v = (toV U s.1, toH U s.2)
 | .jump c K st, v => Z1C call E f fn kk Z (.run c) K (Z45 U st) v
end
end Go.Proofs.YtefmbgacbhifdaaGreat.Le
namespace Go.Proofs.YtefmbgacbhifdaaGreat.Le
inductive Pc where
 | v (t n : Nat) (agg : Bool)
 | own (e j : Nat)
 | ptr (j : Nat)
 | fn (f : FuncId) (a b : List Nat)
 | no
 | nul (ptr : Bool)
inductive Sp where
 | one (c : Pc)
 | agg (cs : List Pc)
inductive Pb where
 | var (e m : Nat) (p : Sp)
 | row (t : Nat) (fresh : Bool)
structure Shape where
 args : List Sp
 boxes : List Pb
abbrev Sp.cells : Sp -> List Pc
 | .one c => [c]
 | .agg cs => cs
section
variable (U : Z9c)
@[reducible] def PX : List Pc -> Type
 | [] => Unit
 | .v t _ _ :: ps => U.Ty t × PX ps
 | _ :: ps => PX ps
@[reducible] def AX : List Sp -> Type
 | [] => Unit
 | p :: ps => PX U p.cells × AX ps
@[reducible] def BX : List Pb -> Type
 | [] => Unit
 | .var _ _ p :: bs => PX U p.cells × BX bs
 | .row t _ :: bs => List (U.Ty t) × BX bs
@[reducible] def Shape.X (s : Shape) : Type := AX U s.args × BX U s.boxes
variable {U}
def Z81 : (bs : List Pb) -> BX U bs -> List Nat
 | [], _ => []
 | .var _ _ _ :: bs, x => 1 :: Z81 bs x.2
 | .row _ _ :: bs, x => x.1.length :: Z81 bs x.2
def ZBN (j : Nat) : SV U.Ty := .ptr j 0 0 1
def nulS : Bool -> SV U.Ty
 | true => .lit (.pointer none)
 | false => .lit .nilFunc
def ZAB : Bool -> SV U.Ty -> Bool
 | true, .lit (.pointer none) => true
 | false, .lit .nilFunc => true
 | _, _ => false
theorem ZyD {b : Bool} {c : SV U.Ty} (h : ZAB b c = true) : c = nulS b := by
 unfold ZAB at h
 split at h <;> first | rfl | cases h
def Z8q (ls : List Nat) : (ps : List Pc) -> PX U ps -> List (SV U.Ty)
 | [], _ => []
 | .v t _ _ :: ps, x => cellsS (U.encS t x.1) ++ Z8q ls ps x.2
 | .own _ j :: ps, x => .all j (ls.getD j 0) :: Z8q ls ps x
 | .ptr j :: ps, x => ZBN j :: Z8q ls ps x
 | .fn f a b :: ps, x => .fn f (a.map ZBN) (b.map ZBN) :: Z8q ls ps x
 | .no :: ps, x => .no :: Z8q ls ps x
 | .nul b :: ps, x => nulS b :: Z8q ls ps x
def Z7j (ls : List Nat) : (p : Sp) -> PX U p.cells -> SV U.Ty
 | .one c, x => (Z8q ls [c] x).headD .und
 | .agg cs, x => .agg (Z8q ls cs x)
def Zlf (ls : List Nat) : (ps : List Sp) -> AX U ps -> List (SV U.Ty)
 | [], _ => []
 | p :: ps, x => Z7j ls p x.1 :: Zlf ls ps x.2
def ZhK (ls : List Nat) : (bs : List Pb) -> BX U bs -> ZE U
 | [], _ => []
 | .var e m p :: bs, x => .var e m (Z7j ls p x.1) :: ZhK ls bs x.2
 | .row t fresh :: bs, x => .row t x.1 (if fresh then none else some x.1.length) :: ZhK ls bs x.2
def Shape.enc (s : Shape) (x : s.X U) : List (SV U.Ty) × ZE U := (Zlf (Z81 s.boxes x.2) s.args x.1, ZhK (Z81 s.boxes x.2) s.boxes x.2)
def ZgC : SV U.Ty -> Bool
 | .nil _ | .raw _ | .agg _ | .tup _ => false
 | _ => true
def ZkE : List Nat -> List (SV U.Ty) -> Bool
 | [], [] => true
 | j :: js, .ptr i a b c :: xs => decide (i = j /\ a = 0 /\ b = 0 /\ c = 1) && ZkE js xs
 | _, _ => false
def Zvc (H : ZE U) : List Nat := H.map fun b => match b with | .row _ xs _ => xs.length | _ => 1
def Zk3 (ls : List Nat) : (ps : List Pc) -> List (SV U.Ty) -> Option (PX U ps × List Bool)
 | [], cs => if cs.isEmpty then some ((), []) else none
 | .v t n true :: ps, cs => if (cs.take n).length = n /\ (cs.take n).all ZgC = true then
   (match U.Zpw t (.agg (cs.take n)), Zk3 ls ps (cs.drop n) with
    | some a, some r => some ((a, r.1), r.2)
    | _, _ => none) else none
 | .v t _ false :: ps, c :: cs => if ZgC c then
   (match U.Zpw t c, Zk3 ls ps cs with
    | some a, some r => some ((a, r.1), r.2)
    | _, _ => none) else none
 | .own _ j :: ps, .all i n :: cs => if i = j then (Zk3 ls ps cs).map fun r => (r.1, (ls.getD j 0 == n) :: r.2) else none
 | .ptr j :: ps, .ptr i a b c :: cs => if i = j /\ a = 0 /\ b = 0 /\ c = 1 then Zk3 ls ps cs else none
 | .fn f a b :: ps, .fn g a' b' :: cs => if g = f /\ ZkE a a' = true /\ ZkE b b' = true then Zk3 ls ps cs else none
 | .no :: ps, .no :: cs => Zk3 ls ps cs
 | .nul b :: ps, c :: cs => if ZAB b c = true then Zk3 ls ps cs else none
 | _ :: _, _ => none
def Zyw (ls : List Nat) : (p : Sp) -> SV U.Ty -> Option (PX U p.cells × List Bool)
 | .one c, x => Zk3 ls [c] [x]
 | .agg cs, .agg xs => Zk3 ls cs xs
 | _, _ => none
def ZBr (ls : List Nat) : (ps : List Sp) -> List (SV U.Ty) -> Option (AX U ps × List Bool)
 | [], [] => some ((), [])
 | p :: ps, x :: xs => (match Zyw ls p x, ZBr ls ps xs with
  | some a, some r => some ((a.1, r.1), a.2 ++ r.2)
  | _, _ => none)
 | _, _ => none
def Zzv (ls : List Nat) : (bs : List Pb) -> ZE U -> Option (BX U bs × List Bool)
 | [], [] => some ((), [])
 | .var e m p :: bs, .var e' m' x :: H => if e' = e /\ m' = m then
   (match Zyw ls p x, Zzv ls bs H with
    | some a, some r => some ((a.1, r.1), a.2 ++ r.2)
    | _, _ => none) else none
 | .row t fresh :: bs, .row t' xs fl :: H => if h : t' = t then
   (match fresh, fl, Zzv ls bs H with
    | true, none, some r => some ((h ▸ xs, r.1), r.2)
    | false, some n, some r => some ((h ▸ xs, r.1), (n == xs.length) :: r.2)
    | _, _, _ => none) else none
 | _, _ => none
def Shape.dec (s : Shape) (as : List (SV U.Ty)) (H : ZE U) : Option (s.X U × List Bool) :=
 match ZBr (Zvc H) s.args as, Zzv (Zvc H) s.boxes H with
 | some a, some b => some ((a.1, b.1), a.2 ++ b.2)
 | _, _ => none
theorem Zg1 {x : SV U.Ty} (h : ZgC x = true) (e : Nat) : Z2a e (toV U x) = toV U x := by
 cases x <;> simp_all [ZgC, toV, Z2a]
theorem Zru {x : SV U.Ty} (h : ZgC x = true) : (toV U x).cells = [toV U x] := by
 cases x <;> first | rfl | (simp [ZgC] at h)
theorem ZuY {x : SV U.Ty} (h : ZgC x = true) : ∀ cs, toV U x ≠ .agg cs := by
 intro cs hc
 cases x <;> first | (cases hc; done) | (simp [ZgC] at h)
theorem Zr5 : ∀ {xs : List (SV U.Ty)}, xs.all ZgC = true -> ∀ es, Z1J es (ZY U xs) = ZY U xs := by
 intro xs
 induction xs with
 | nil => intro _ es; cases es <;> rfl
 | cons x xs ih =>
  intro h es
  simp only [List.all_cons, Bool.and_eq_true] at h
  cases es with
  | nil => rfl
  | cons e es => simp only [ZY, Z1J, Zg1 h.1, ih h.2]
theorem Z3K (xs ys : List (SV U.Ty)) : ZY U (xs ++ ys) = ZY U xs ++ ZY U ys := by simp [Z0H]
theorem Zq5 : ∀ {js : List Nat} {xs : List (SV U.Ty)}, ZkE js xs = true -> xs = js.map ZBN := by
 intro js
 induction js with
 | nil => intro xs h; cases xs with
  | nil => rfl
  | cons => simp [ZkE] at h
 | cons j js ih =>
  intro xs h
  cases xs with
  | nil => simp [ZkE] at h
  | cons x xs =>
   cases x <;> simp [ZkE] at h
   obtain ⟨⟨rfl, rfl, rfl, rfl⟩, h2⟩ := h
   rw [ih h2]
   rfl
theorem Zxw {E : Env} (hU : Z0n U E) (ls : List Nat) : ∀ (ps : List Pc) {cs : List (SV U.Ty)} {r : PX U ps × List Bool}, Zk3 ls ps cs = some r -> (∀ b ∈ r.2, b = true) -> ZY U cs = ZY U (Z8q ls ps r.1) := by
 intro ps
 induction ps with
 | nil =>
  intro cs r h _
  simp only [Zk3] at h
  split at h
  ·rename_i hc; cases cs with
   | nil => rfl
   | cons => simp at hc
  ·cases h
 | cons p ps ih =>
  intro cs r h hb
  cases p with
  | v t n ag =>
   cases ag with
   | true =>
    simp only [Zk3] at h
    split at h
    ·rename_i hc
     split at h
     ·rename_i a r' h1 h2
      simp only [Option.some.injEq] at h
      subst h
      have e := hU.dec t _ a h1
      simp only [toV, Z0Y] at e
      rw [Zr5 hc.2] at e
      have ec := hU.cells t a
      rw [<- e] at ec
      simp only [V.cells] at ec
      simp only [Z8q, Z3K, <- ec, <- ih h2 hb]
      rw [<- Z3K, List.take_append_drop]
     ·cases h
    ·cases h
   | false =>
    cases cs with
    | nil => simp [Zk3] at h
    | cons c cs =>
     simp only [Zk3] at h
     split at h
     ·rename_i hc
      split at h
      ·rename_i a r' h1 h2
       simp only [Option.some.injEq] at h
       subst h
       have e := hU.dec t _ a h1
       have hr : ∀ es, Z0Y es (toV U c) = toV U c := by
        intro es
        unfold Z0Y
        split
        ·rename_i cs' hcs
         exact absurd hcs (ZuY hc cs')
        ·exact Zg1 hc _
       rw [hr] at e
       have ec := hU.cells t a
       rw [<- e] at ec
       rw [Zru hc] at ec
       simp only [Z8q, Z3K, <- ec, <- ih h2 hb]
       rfl
      ·cases h
     ·cases h
  | own e j =>
   cases cs with
   | nil => simp [Zk3] at h
   | cons c cs =>
    cases c <;> simp only [Zk3] at h <;> try (cases h; done)
    split at h
    ·rename_i hij
     subst hij
     simp only [Option.map_eq_some_iff] at h
     obtain ⟨r', h2, rfl⟩ := h
     have hn := hb _ (List.mem_cons_self ..)
     simp only [beq_iff_eq] at hn
     simp only [Z8q, ZY, toV, hn, ih h2 (fun b hh => hb b (by simp [hh]))]
    ·cases h
  | ptr j =>
   cases cs with
   | nil => simp [Zk3] at h
   | cons c cs =>
    cases c <;> simp only [Zk3] at h <;> try (cases h; done)
    split at h
    ·rename_i hij
     obtain ⟨rfl, rfl, rfl, rfl⟩ := hij
     simp only [Z8q, ZY, ZBN, ih h hb]
    ·cases h
  | fn f a b =>
   cases cs with
   | nil => simp [Zk3] at h
   | cons c cs =>
    cases c <;> simp only [Zk3] at h <;> try (cases h; done)
    split at h
    ·rename_i hij
     obtain ⟨rfl, h1, h2⟩ := hij
     rw [Zq5 h1, Zq5 h2]
     simp only [Z8q, ZY, ih h hb]
    ·cases h
  | no =>
   cases cs with
   | nil => simp [Zk3] at h
   | cons c cs =>
    cases c <;> simp only [Zk3] at h <;> try (cases h; done)
    simp only [Z8q, ZY, ih h hb]
  | nul b =>
   cases cs with
   | nil => simp [Zk3] at h
   | cons c cs =>
    simp only [Zk3] at h
    split at h
    ·rename_i hn
     rw [ZyD hn]
     simp only [Z8q, ZY, ih h hb]
    ·cases h
theorem Zt9 {E : Env} (hU : Z0n U E) (ls : List Nat) {p : Sp} {x : SV U.Ty} {r : PX U p.cells × List Bool} (h : Zyw ls p x = some r) (hb : ∀ b ∈ r.2, b = true) : toV U x = toV U (Z7j ls p r.1) := by
 cases p with
 | one c =>
  have := Zxw hU ls [c] h hb
  simp only [ZY] at this
  cases hp : Z8q ls [c] r.1 with
  | nil => rw [hp] at this; cases this
  | cons y ys =>
   rw [hp] at this
   simp only [ZY, List.cons.injEq] at this
   simp only [Z7j]
   rw [hp]
   exact this.1
 | agg cs =>
  cases x <;> simp only [Zyw] at h <;> try (cases h; done)
  have := Zxw hU ls cs h hb
  simp only [Z7j, toV, this]
theorem ZAl {E : Env} (hU : Z0n U E) (ls : List Nat) : ∀ (ps : List Sp) {cs : List (SV U.Ty)} {r : AX U ps × List Bool}, ZBr ls ps cs = some r -> (∀ b ∈ r.2, b = true) -> ZY U cs = ZY U (Zlf ls ps r.1) := by
 intro ps
 induction ps with
 | nil =>
  intro cs r h _
  cases cs with
  | nil => rfl
  | cons => simp [ZBr] at h
 | cons p ps ih =>
  intro cs r h hb
  cases cs with
  | nil => simp [ZBr] at h
  | cons c cs =>
   simp only [ZBr] at h
   split at h
   ·rename_i a r' h1 h2
    simp only [Option.some.injEq] at h
    subst h
    simp only [Zlf, ZY, Zt9 hU ls h1 (fun b hh => hb b (by simp [hh])), ih h2 (fun b hh => hb b (by simp [hh]))]
   ·cases h
theorem ZAz {E : Env} (hU : Z0n U E) (ls : List Nat) : ∀ (bs : List Pb) {H : ZE U} {r : BX U bs × List Bool}, Zzv ls bs H = some r -> (∀ b ∈ r.2, b = true) -> toH U H = toH U (ZhK ls bs r.1) /\ Z81 bs r.1 = Zvc H := by
 intro bs
 induction bs with
 | nil =>
  intro H r h _
  cases H with
  | nil => exact ⟨rfl, rfl⟩
  | cons => simp [Zzv] at h
 | cons b bs ih =>
  intro H r h hb
  cases H with
  | nil => cases b <;> simp [Zzv] at h
  | cons x H =>
   cases b with
   | var e m p =>
    cases x <;> simp only [Zzv] at h <;> try (cases h; done)
    split at h
    ·rename_i he
     obtain ⟨rfl, rfl⟩ := he
     split at h
     ·rename_i a r' h1 h2
      simp only [Option.some.injEq] at h
      subst h
      obtain ⟨e1, e2⟩ := ih h2 (fun b hh => hb b (by simp [hh]))
      have e3 := Zt9 hU ls h1 (fun b hh => hb b (by simp [hh]))
      refine ⟨?_, ?_⟩
      ·simp only [toH, ZhK, List.map_cons, Z0F, e3]
       exact congrArg _ e1
      ·simp only [Z81, Zvc, List.map_cons, e2]
     ·cases h
    ·cases h
   | row t fresh =>
    cases x <;> simp only [Zzv] at h <;> try (cases h; done)
    rename_i t' xs fl
    split at h
    ·rename_i ht
     subst ht
     split at h
     ·rename_i r' h2
      simp only [Option.some.injEq] at h
      subst h
      obtain ⟨e1, e2⟩ := ih h2 hb
      refine ⟨?_, ?_⟩
      ·simp only [toH, ZhK, List.map_cons, if_true]
       exact congrArg _ e1
      ·simp only [Z81, Zvc, List.map_cons, e2]
     ·rename_i n r' h2
      simp only [Option.some.injEq] at h
      subst h
      obtain ⟨e1, e2⟩ := ih h2 (fun b hh => hb b (by simp [hh]))
      have hn := hb _ (List.mem_cons_self ..)
      simp only [beq_iff_eq] at hn
      refine ⟨?_, ?_⟩
      ·simp only [toH, ZhK, List.map_cons, Bool.false_eq_true, if_false, Z0F, hn]
       exact congrArg _ e1
      ·simp only [Z81, Zvc, List.map_cons, e2]
     ·cases h
    ·cases h
theorem Shape.Zt1 {E : Env} (hU : Z0n U E) {s : Shape} {as : List (SV U.Ty)} {H : ZE U} {r : s.X U × List Bool} (h : s.dec as H = some r) (hb : ∀ b ∈ r.2, b = true) : ZY U as = ZY U (s.enc r.1).1 /\ toH U H = toH U (s.enc r.1).2 := by
 unfold Shape.dec at h
 split at h
 ·rename_i a b h1 h2
  simp only [Option.some.injEq] at h
  subst h
  obtain ⟨e1, e2⟩ := ZAz hU _ _ h2 (fun b hh => hb b (by simp [hh]))
  have e3 := ZAl hU _ _ h1 (fun b hh => hb b (by simp [hh]))
  simp only [Shape.enc, e2]
  exact ⟨e3, e1⟩
 ·cases h
variable (U)
def PcOK : Pc -> Prop
 | .v t n true => t ∈ U.keys /\ ∀ a, ∃ cs, U.encS t a = .agg cs /\ cs.length = n
 | .v t n false => t ∈ U.keys /\ ∀ a, cellsS (U.encS t a) = [U.encS t a]
 | _ => True
def PsOK : List Pc -> Prop
 | [] => True
 | p :: ps => PcOK U p /\ PsOK ps
def SpOK : Sp -> Prop
 | .one (.v _ _ true) => False
 | .one c => PcOK U c
 | .agg cs => PsOK U cs
def AsOK : List Sp -> Prop
 | [] => True
 | p :: ps => SpOK U p /\ AsOK ps
def ZDk : List Pb -> Prop
 | [] => True
 | .var _ _ p :: bs => SpOK U p /\ ZDk bs
 | .row t _ :: bs => t ∈ U.keys /\ ZDk bs
def Shape.OK (s : Shape) : Prop := AsOK U s.args /\ ZDk U s.boxes
variable {U}
theorem Zpd {E : Env} (hU : Z0n U E) {ls ls' : List Nat} : ∀ {ps : List Pc} {x y : PX U ps}, PsOK U ps -> ZY U (Z8q ls ps x) = ZY U (Z8q ls' ps y) -> x = y := by
 intro ps
 induction ps with
 | nil => intro x y _ _; rfl
 | cons p ps ih =>
  intro x y hk h
  obtain ⟨hp, hk⟩ := hk
  cases p with
  | v t n ag =>
   obtain ⟨a, x'⟩ := x
   obtain ⟨b, y'⟩ := y
   simp only [Z8q, Z3K] at h
   have key : ZY U (cellsS (U.encS t a)) = ZY U (cellsS (U.encS t b)) /\ ZY U (Z8q ls ps x') = ZY U (Z8q ls' ps y') /\ U.enc t a = U.enc t b /\ t ∈ U.keys := by
    cases ag with
    | true =>
     obtain ⟨hm, hl⟩ := hp
     obtain ⟨ca, ea, la⟩ := hl a
     obtain ⟨cb, eb, lb⟩ := hl b
     have := List.append_inj h (by rw [Z0p, Z0p, ea, eb]; simp only [cellsS, la, lb])
     refine ⟨this.1, this.2, ?_, hm⟩
     rw [<- hU.encS, <- hU.encS, ea, eb]
     have h1 := this.1
     rw [ea, eb] at h1
     simp only [cellsS] at h1
     simp only [toV, h1]
    | false =>
     obtain ⟨hm, hl⟩ := hp
     have := List.append_inj h (by rw [Z0p, Z0p, hl a, hl b]; rfl)
     refine ⟨this.1, this.2, ?_, hm⟩
     have h1 := this.1
     rw [hl a, hl b] at h1
     simp only [ZY, List.cons.injEq, and_true, hU.encS] at h1
     exact h1
   obtain ⟨_, h2, h3, hm⟩ := key
   have ha := hU.inj t hm a b h3
   subst ha
   rw [ih hk h2]
  | own e j =>
   simp only [Z8q, ZY, List.cons.injEq] at h
   exact ih hk h.2
  | ptr j =>
   simp only [Z8q, ZY, List.cons.injEq] at h
   exact ih hk h.2
  | fn f a b =>
   simp only [Z8q, ZY, List.cons.injEq] at h
   exact ih hk h.2
  | no =>
   simp only [Z8q, ZY, List.cons.injEq] at h
   exact ih hk h.2
  | nul b =>
   simp only [Z8q, ZY, List.cons.injEq] at h
   exact ih hk h.2
theorem Zrd {E : Env} (hU : Z0n U E) {ls ls' : List Nat} {p : Sp} {x y : PX U p.cells} (hk : SpOK U p) (h : toV U (Z7j ls p x) = toV U (Z7j ls' p y)) : x = y := by
 cases p with
 | one c =>
  cases c with
  | v t n ag =>
   cases ag with
   | true => exact hk.elim
   | false =>
    obtain ⟨a, x'⟩ := x
    obtain ⟨b, y'⟩ := y
    have hk' : PcOK U (.v t n false) := hk
    refine Zpd hU (ps := [.v t n false]) ⟨hk', trivial⟩ (ls := ls) (ls' := ls') ?_
    simp only [Z7j, Z8q, hk'.2, List.append_nil, List.headD_cons] at h
    simp only [Z8q, hk'.2, List.append_nil, ZY, h]
  | own e j => exact Zpd hU (ps := [.own e j]) ⟨trivial, trivial⟩ (ls := ls) (ls' := ls') (by simp only [Z7j, Z8q, List.headD_cons] at h; simp only [Z8q, ZY, h])
  | ptr j => rfl
  | fn f a b => rfl
  | no => rfl
  | nul b => rfl
 | agg cs =>
  simp only [Z7j, toV, V.agg.injEq] at h
  exact Zpd hU hk h
theorem Zz5 {E : Env} (hU : Z0n U E) {ls ls' : List Nat} : ∀ {ps : List Sp} {x y : AX U ps}, AsOK U ps -> ZY U (Zlf ls ps x) = ZY U (Zlf ls' ps y) -> x = y := by
 intro ps
 induction ps with
 | nil => intro x y _ _; rfl
 | cons p ps ih =>
  intro x y hk h
  obtain ⟨a, x'⟩ := x
  obtain ⟨b, y'⟩ := y
  simp only [Zlf, ZY, List.cons.injEq] at h
  rw [Zrd hU hk.1 h.1, ih hk.2 h.2]
theorem ZrE {E : Env} (hU : Z0n U E) {t : Nat} (ht : t ∈ U.keys) : ∀ {xs ys : List (U.Ty t)}, xs.map (U.enc t) = ys.map (U.enc t) -> xs = ys := by
 intro xs
 induction xs with
 | nil => intro ys h; cases ys with
  | nil => rfl
  | cons => cases h
 | cons x xs ih =>
  intro ys h
  cases ys with
  | nil => cases h
  | cons y ys =>
   simp only [List.map_cons, List.cons.injEq] at h
   rw [hU.inj t ht x y h.1, ih h.2]
theorem Zy9 {E : Env} (hU : Z0n U E) {ls ls' : List Nat} : ∀ {bs : List Pb} {x y : BX U bs}, ZDk U bs -> toH U (ZhK ls bs x) = toH U (ZhK ls' bs y) -> x = y := by
 intro bs
 induction bs with
 | nil => intro x y _ _; rfl
 | cons b bs ih =>
  intro x y hk h
  cases b with
  | var e m p =>
   obtain ⟨a, x'⟩ := x
   obtain ⟨b, y'⟩ := y
   simp only [ZhK, toH, List.map_cons, List.cons.injEq, Z0F, ZK, Box.mk.injEq, true_and, and_true] at h
   rw [Zrd hU hk.1 h.1, ih hk.2 h.2]
  | row t fresh =>
   obtain ⟨a, x'⟩ := x
   obtain ⟨b, y'⟩ := y
   simp only [ZhK, toH, List.map_cons, List.cons.injEq, Z0F, Box.mk.injEq, true_and] at h
   rw [ZrE hU hk.1 h.1.1, ih hk.2 h.2]
theorem Shape.ZvW {E : Env} (hU : Z0n U E) {s : Shape} (hk : s.OK U) {x y : s.X U} (h1 : ZY U (s.enc x).1 = ZY U (s.enc y).1) (h2 : toH U (s.enc x).2 = toH U (s.enc y).2) : x = y := by
 obtain ⟨a, b⟩ := x
 obtain ⟨a', b'⟩ := y
 have e2 := Zy9 hU hk.2 h2
 simp only at e2
 subst e2
 have e1 := Zz5 hU hk.1 h1
 simp only at e1
 rw [e1]
variable (U)
structure HMod where
 fa : List (List Fk)
 fb : List Bf
 sin : Shape
 ZtF : Shape
 one : Bool
 ky : Nat
 toX : U.Ty ky -> ZtF.X U
 fn : sin.X U -> Option (U.Ty ky)
 ok : sin.OK U
variable {U}
def HMod.out (m : HMod U) (y : U.Ty m.ky) : SV U.Ty × ZE U := ((if m.one then (m.ZtF.enc (m.toX y)).1.headD .und else .tup (m.ZtF.enc (m.toX y)).1), (m.ZtF.enc (m.toX y)).2)
open Classical in
noncomputable def HMod.spec (m : HMod U) : ZuE where
 fa := m.fa
 fb := m.fb
 run := fun as H0 => if h : ∃ x : m.sin.X U, ZY U (m.sin.enc x).1 = as /\ toH U (m.sin.enc x).2 = H0 then (m.fn (Classical.choose h)).map fun y => (toV U (m.out y).1, toH U (m.out y).2) else none
theorem HMod.ZyG {E : Env} (hU : Z0n U E) (m : HMod U) (x : m.sin.X U) : m.spec.run (ZY U (m.sin.enc x).1) (toH U (m.sin.enc x).2) = (m.fn x).map fun y => (toV U (m.out y).1, toH U (m.out y).2) := by
 have h : ∃ y : m.sin.X U, ZY U (m.sin.enc y).1 = ZY U (m.sin.enc x).1 /\ toH U (m.sin.enc y).2 = toH U (m.sin.enc x).2 := ⟨x, rfl, rfl⟩
 simp only [HMod.spec, dif_pos h]
 rw [Shape.ZvW hU m.ok (Classical.choose_spec h).1 (Classical.choose_spec h).2]
def ZwZ (m : HMod U) (as : List (SV U.Ty)) (H : ZE U) : Tr U (SV U.Ty × ZE U) :=
 (ZtS m.fa m.fb 0 as H).andThen fun r => match m.sin.dec (ZeK (r.1.idxOf ·) r.2.1) (ZtY r.2.2 r.1) with
  | some x => (match x.2 with
   | [] => .bind m.ky (m.fn x.1) fun y => .when (r.1.length <= (m.out y).2.length) (.leaf (Z7C (Zf1 r.1 r.2.2.length) (m.out y).1, ZgJ r.2.2 r.1 (m.out y).2))
   | c :: cs => .chk (Zni (c :: cs)) (.bind m.ky (m.fn x.1) fun y => .when (r.1.length <= (m.out y).2.length) (.leaf (Z7C (Zf1 r.1 r.2.2.length) (m.out y).1, ZgJ r.2.2 r.1 (m.out y).2))))
  | none => .fail
theorem Zwp {E : Env} (hU : Z0n U E) {m : HMod U} {as : List (SV U.Ty)} {H : ZE U} {r : SV U.Ty × ZE U} (h : (ZwZ m as H).Zz r) : Zn0 m.spec (ZY U as) (toH U H) = some (toV U r.1, toH U r.2) := by
 simp only [ZwZ, Zy] at h
 obtain ⟨p, hp, h⟩ := h
 have hp' := ZjW hp
 split at h
 ·rename_i x hx
  have key : (∀ b ∈ x.2, b = true) /\ ∃ y, m.fn x.1 = some y /\ p.1.length <= (m.out y).2.length /\ r = (Z7C (Zf1 p.1 p.2.2.length) (m.out y).1, ZgJ p.2.2 p.1 (m.out y).2) := by
   split at h
   ·rename_i hnil
    simp only [Tr.Zz, ZZ] at h
    obtain ⟨y, h1, h2, h3⟩ := h
    exact ⟨by rw [hnil]; intro b hb; simp at hb, y, h1, h2, h3.symm⟩
   ·rename_i c cs hcs
    simp only [Tr.Zz, ZZ] at h
    obtain ⟨hc, y, h1, h2, h3⟩ := h
    exact ⟨by rw [hcs]; exact Znd hc, y, h1, h2, h3.symm⟩
  obtain ⟨hb, y, h1, h2, rfl⟩ := key
  obtain ⟨e1, e2⟩ := Shape.Zt1 hU hx hb
  rw [Z6U] at e1
  rw [ZgE] at e2
  unfold Zn0
  simp only [show m.spec.fa = m.fa from rfl, show m.spec.fb = m.fb from rfl, hp', e1, e2, HMod.ZyG hU, h1, Option.map_some, Z6o]
  rw [if_pos h2, ZjX, ZpH]
 ·simp [Tr.Zz] at h
end
end Go.Proofs.YtefmbgacbhifdaaGreat.Le
namespace Go.Proofs.YtefmbgacbhifdaaGreat.Le
open Go.RowKit (Below)
section
variable {U : Z9c}
def ZjY (U : Z9c) : List Nat -> Type
 | [] => Unit
 | t :: ts => U.Ty t × ZjY U ts
def Z23 : (ts : List Nat) -> ZjY U ts -> List V
 | [], _ => []
 | t :: ts, x => U.enc t x.1 :: Z23 ts x.2
def ZfO : (ts : List Nat) -> List (SV U.Ty) -> Option (ZjY U ts)
 | [], [] => some ()
 | t :: ts, v :: vs => match U.Zpw t v, ZfO ts vs with | some a, some as => some (a, as) | _, _ => none
 | _, _ => none
structure Mod (U : Z9c) where
 ts : List Nat
 rt : Nat
 fn : ZjY U ts -> Option (U.Ty rt)
 ok : ∀ t ∈ ts, t ∈ U.keys
def Zq9 : SV U.Ty -> Bool
 | .ptr _ _ _ _ => true
 | .raw v => Zld v
 | _ => false
def ZwS (H : ZE U) : SV U.Ty -> Tr U (SV U.Ty)
 | .ptr id i off tot => if i = 0 /\ off = 0 /\ tot = 1 then (match H[id]? with
   | some (.var _ n (.agg cs)) => .leaf (.raw (.ept n [.agg ((ZY U cs).map Zup)] 0 0))
   | _ => .fail) else .fail
 | .raw _ => .fail
 | v => ZzI H v
def Zhm (H : ZE U) : List (SV U.Ty) -> Tr U (List (SV U.Ty))
 | [] => .leaf []
 | v :: vs => (ZwS H v).andThen fun w => (Zhm H vs).andThen fun ws => .leaf (w :: ws)
def ZtK : SV U.Ty -> Bool
 | .lit _ | .si _ _ | .sb _ | .ss _ => true
 | _ => false
def ZnB : SV U.Ty -> Bool
 | .lit _ | .si _ _ | .sb _ | .ss _ => true
 | .agg cs => cs.all ZtK
 | _ => false
def ZBh : SV U.Ty -> Bool
 | .tup vs => vs.all ZnB
 | v => ZnB v
theorem ZvI (x : SV U.Ty) : Zld (toV U x) = Zq9 x := by
 cases x <;> simp [Zq9, Zld, toV]
theorem Zno (xs : List (SV U.Ty)) : (ZY U xs).any Zld = xs.any Zq9 := by
 induction xs with
 | nil => rfl
 | cons x xs ih => simp only [ZY, List.any_cons, ih, ZvI]
theorem Zxf (x : SV U.Ty) (h : ZtK x = true) : Zae (toV U x) = true := by
 cases x <;> simp_all [ZtK, Zae, toV]
theorem ZnU (xs : List (SV U.Ty)) (h : xs.all ZtK = true) : (ZY U xs).all Zae = true := by
 induction xs with
 | nil => rfl
 | cons x xs ih =>
  simp only [List.all_cons, Bool.and_eq_true] at h
  simp only [ZY, List.all_cons, Bool.and_eq_true]
  exact ⟨Zxf x h.1, ih h.2⟩
theorem ZwF (x : SV U.Ty) (h : ZnB x = true) : Zh2 (toV U x) = true := by
 cases x <;> first | (simp [ZnB] at h; done) | (simp [Zh2, toV]; done) | skip
 rename_i cs
 simp only [toV, Zh2]
 exact ZnU cs h
theorem ZuN (xs : List (SV U.Ty)) (h : xs.all ZnB = true) : (ZY U xs).all Zh2 = true := by
 induction xs with
 | nil => rfl
 | cons x xs ih =>
  simp only [List.all_cons, Bool.and_eq_true] at h
  simp only [ZY, List.all_cons, Bool.and_eq_true]
  exact ⟨ZwF x h.1, ih h.2⟩
theorem Zyv (x : SV U.Ty) (h : ZBh x = true) : ZmW (toV U x) = true := by
 cases x <;> first | (simp [ZBh, ZnB] at h; done) | (simp [ZmW, Zh2, toV]; done) | skip
 ·rename_i cs
  simp only [toV, ZmW, Zh2]
  exact ZnU cs h
 ·rename_i vs
  simp only [toV, ZmW]
  exact ZuN vs h
theorem Zx3 {H : ZE U} {x y : SV U.Ty} (h : (ZwS H x).Zz y) : ZoY (toH U H) (toV U x) = some (toV U y) := by
 unfold ZwS at h
 split at h
 ·rename_i id i off tot
  split at h
  ·rename_i hz
   obtain ⟨rfl, rfl, rfl⟩ := hz
   split at h
   ·rename_i e n cs hb
    simp only [Tr.Zz] at h
    subst h
    simp only [toV, ZoY, and_self, if_true, Z1L, Z8f, hb, Option.map_some, Z0F, ZK]
    simp
   ·simp [Tr.Zz] at h
  ·simp [Tr.Zz] at h
 ·simp [Tr.Zz] at h
 ·rename_i hn1 hn2
  unfold ZoY
  split
  ·rename_i id i off tot hv
   exfalso
   cases x <;> simp [toV] at hv
   ·exact hn1 _ _ _ _ rfl
   ·exact hn2 _ rfl
  ·exact Zpr h
theorem ZrJ {H : ZE U} : ∀ {xs ys : List (SV U.Ty)}, (Zhm H xs).Zz ys -> Z6m (toH U H) (ZY U xs) = some (ZY U ys) := by
 intro xs
 induction xs with
 | nil => intro ys h; simp only [Zhm, Tr.Zz] at h; subst h; rfl
 | cons x xs ih =>
  intro ys h
  simp only [Zhm, Zy, Tr.Zz] at h
  obtain ⟨w, h1, ws, h2, rfl⟩ := h
  simp only [ZY, Z6m, Zx3 h1, ih h2]
def ZA2 (hmods : FuncId -> List FuncId -> Option (HMod U)) (g : FuncId) : Bool := match hmods g [] with | some m => m.fb.isEmpty | none => false
def Zs4 (mods : FuncId -> Option (Mod U)) (hmods : FuncId -> List FuncId -> Option (HMod U)) : Mdl U := fun g as H =>
 match mods g with
 | some m => if as.any Zq9 then (Zhm H as).andThen fun as' => (match ZfO m.ts as' with
   | some x => .bind m.rt (m.fn x) fun r => .when (ZBh (U.encS m.rt r) = true /\ (as.flatMap Zki).isEmpty = true) (.leaf (U.encS m.rt r, H))
   | none => .fail)
  else (ZbB H as).andThen fun as' => (match ZfO m.ts as' with
  | some x => .bind m.rt (m.fn x) fun r => .leaf (U.encS m.rt r, ZoG H (as.flatMap Zki))
  | none => .fail)
 | none => match hmods g (if ZA2 hmods g then [] else ZnW as) with
  | some m => ZwZ m as H
  | none => .fail
noncomputable def ZBy (hmods : FuncId -> List FuncId -> Option (HMod U)) : FuncId -> List FuncId -> Option ZuE := fun g k => (hmods g k).map HMod.spec
open Classical in
noncomputable def ZmN (mods : FuncId -> Option (Mod U)) : FuncId -> Option (List V -> Option V) := fun g =>
 match mods g with
 | some m => some fun as => if h : ∃ x : ZjY U m.ts, Z23 m.ts x = as then (m.fn (Classical.choose h)).map (U.enc m.rt) else none
 | none => none
theorem Znm {E : Env} (hU : Z0n U E) : ∀ {ts : List Nat} {vs : List (SV U.Ty)} {x : ZjY U ts}, ZfO ts vs = some x -> Z0r E.rows ts (ZY U vs) = Z23 ts x := by
 intro ts
 induction ts with
 | nil =>
  intro vs x h
  cases vs with
  | nil => rfl
  | cons => simp [ZfO] at h
 | cons t ts ih =>
  intro vs x h
  cases vs with
  | nil => simp [ZfO] at h
  | cons v vs =>
   simp only [ZfO] at h
   split at h
   ·rename_i a as h1 h2
    cases h
    simp only [ZY, Z0r, Z23, hU.dec _ _ _ h1, ih h2]
   ·cases h
theorem Zsi {E : Env} (hU : Z0n U E) : ∀ {ts : List Nat} {x y : ZjY U ts}, (∀ t ∈ ts, t ∈ U.keys) -> Z23 ts x = Z23 ts y -> x = y := by
 intro ts
 induction ts with
 | nil => intro x y _ _; rfl
 | cons t ts ih =>
  intro x y hk h
  obtain ⟨x1, x2⟩ := x
  obtain ⟨y1, y2⟩ := y
  simp only [Z23, List.cons.injEq] at h
  rw [hU.inj t (hk t (by simp)) _ _ h.1, ih (fun t' ht' => hk t' (by simp [ht'])) h.2]
theorem ZoS {E : Env} (hU : Z0n U E) {mods : FuncId -> Option (Mod U)} {g : FuncId} {m : Mod U} (hm : mods g = some m) {F : List V -> Option V} (hF : ZmN mods g = some F) (x : ZjY U m.ts) : F (Z23 m.ts x) = (m.fn x).map (U.enc m.rt) := by
 unfold ZmN at hF
 simp only [hm, Option.some.injEq] at hF
 subst hF
 have h : ∃ y : ZjY U m.ts, Z23 m.ts y = Z23 m.ts x := ⟨x, rfl⟩
 simp only [dif_pos h]
 rw [Zsi hU m.ok (Classical.choose_spec h)]
theorem Zy1 {E : Env} (hU : Z0n U E) {mods : FuncId -> Option (Mod U)} {hmods : FuncId -> List FuncId -> Option (HMod U)} (henv : E.env = ZmN mods) (hhm : E.hm = ZBy hmods) (hpu : ∀ g, E.pure g = false) (hpar : ∀ g m, mods g = some m -> E.par g = m.ts)
  (hown : ∀ g, E.own g = none) (n : Nat) : Zl7 U (Zs4 mods hmods) (Z5D E (n + 1)) := by
 intro g as H v H' h
 unfold Zs4 at h
 cases hm : mods g with
 | none =>
  simp only [hm] at h
  have hne : E.env g = none := by rw [henv]; unfold ZmN; simp [hm]
  split at h
  ·rename_i m hmm
   have := Zwp hU h
   unfold Z5D
   simp only [hne, hpu g, Bool.false_eq_true, if_false]
   have hfr : ZoO E g = ZA2 hmods g := by
    unfold ZoO ZA2
    rw [hne, hpu g, hhm]
    simp only [ZBy]
    cases hmods g [] <;> rfl
   have hk : E.hm g (if ZoO E g then [] else Zjo (ZY U as)) = some m.spec := by rw [hfr, hhm, ZtX]; simp only [ZBy, hmm, Option.map_some]
   simp only [hk, this]
  ·simp [Tr.Zz] at h
 | some m =>
  simp only [hm] at h
  by_cases hq : as.any Zq9 = true
  ·rw [if_pos hq] at h
   simp only [Zy] at h
   obtain ⟨as', h1, h⟩ := h
   split at h
   ·rename_i x hx
    simp only [Tr.Zz, ZZ, Prod.mk.injEq] at h
    obtain ⟨r, hr, ⟨hfl, hids⟩, rfl, rfl⟩ := h
    have hF : ∃ F, E.env g = some F := by rw [henv]; unfold ZmN; simp [hm]
    obtain ⟨F, hF⟩ := hF
    have hat := ZoS hU hm (by rw [<- henv]; exact hF) x
    have hfl' := Zyv _ hfl
    rw [hU.encS] at hfl'
    have hids' : (ZY U as).flatMap Z8b = [] := by rw [ZkG]; simpa using hids
    unfold Z5D
    simp only [hF]
    rw [if_pos (by rw [Zno]; exact hq), ZrJ h1]
    simp only [hown g, hpar g m hm, Znm hU hx, hat, hr, Option.map_some]
    rw [if_pos hfl', hids', hU.encS]
    rfl
   ·simp [Tr.Zz] at h
  rw [if_neg hq] at h
  simp only [Zy] at h
  obtain ⟨as', h1, h⟩ := h
  split at h
  ·rename_i x hx
   simp only [Tr.Zz, Prod.mk.injEq] at h
   obtain ⟨r, hr, rfl, rfl⟩ := h
   have hF : ∃ F, E.env g = some F := by rw [henv]; unfold ZmN; simp [hm]
   obtain ⟨F, hF⟩ := hF
   have hat := ZoS hU hm (by rw [<- henv]; exact hF) x
   unfold Z5D
   simp only [hF]
   rw [if_neg (by rw [Zno]; exact hq)]
   simp only [ZhE h1, hown g, hpar g m hm, Znm hU hx, hat, hr, Option.map_some, ZkG, ZdT H _ (ZiX h1), hU.encS]
  ·simp [Tr.Zz] at h
structure Z1p (P : Program) (E : Env) (g : FuncId) (m : Mod U) : Prop where
 entered : Z9U P g
 pure : ∀ x a, m.fn x = some a -> Zhd P E g (Z23 m.ts x) (U.enc m.rt a)
theorem Z1p.Zcy {P : Program} {E E' : Env} (h : E'.Zcy = E.Zcy) {g : FuncId} {m : Mod U} (hf : Z1p P E g m) : Z1p P E' g m := by
 refine ⟨hf.entered, fun x a hx fz w vs hc hg hr => hf.pure x a hx fz w vs hc ?_ hr⟩
 intro g r hh
 exact hg g r (by rw [h]; exact hh)
structure Z29 (P : Program) (E : Env) (g : FuncId) (m : HMod U) : Prop where
 entered : Z9U P g
 heap : ∀ x y, m.fn x = some y -> ZsX P E g (ZY U (m.sin.enc x).1) (toH U (m.sin.enc x).2) (toV U (m.out y).1) (toH U (m.out y).2)
theorem Z29.Zcy {P : Program} {E E' : Env} (h : E'.Zcy = E.Zcy) {g : FuncId} {m : HMod U} (hf : Z29 P E g m) : Z29 P E' g m := by
 refine ⟨hf.entered, fun x y hx B w0 σ w vs hi hg hr => hf.heap x y hx B w0 σ w vs hi ?_ hr⟩
 intro g r hh
 exact hg g r (by rw [h]; exact hh)
theorem ZpE {P : Program} {E : Env} (hU : Z0n U E) {mods : FuncId -> Option (Mod U)} {hmods : FuncId -> List FuncId -> Option (HMod U)} (henv : E.env = ZmN mods) (hhm : E.hm = ZBy hmods) (hown : ∀ g, E.own g = none) (h : ∀ g m, mods g = some m -> Z1p P E g m)
  (h' : ∀ g k m, hmods g k = some m -> Z29 P E g m) : Znx P E := by
 refine ⟨?_, fun g k hs hh => ?_⟩
 rotate_left
 ·rw [hhm] at hh
  simp only [ZBy, Option.map_eq_some_iff] at hh
  obtain ⟨m, hm, rfl⟩ := hh
  refine ⟨(h' g k m hm).entered, fun as H0 r H1 hrun => ?_⟩
  simp only [HMod.spec] at hrun
  split at hrun
  ·rename_i hx
   obtain ⟨x, rfl, rfl⟩ := hx
   simp only [Option.map_eq_some_iff] at hrun
   obtain ⟨y, hy, he⟩ := hrun
   simp only [Prod.mk.injEq] at he
   obtain ⟨rfl, rfl⟩ := he
   generalize hch : (⟨x, rfl, rfl⟩ : ∃ y : m.sin.X U, ZY U (m.sin.enc y).1 = ZY U (m.sin.enc x).1 /\ toH U (m.sin.enc y).2 = toH U (m.sin.enc x).2) = hex at hy
   have hxe := Shape.ZvW hU m.ok (Classical.choose_spec hex).1 (Classical.choose_spec hex).2
   rw [hxe] at hy
   exact (h' g k m hm).heap x y hy
  ·cases hrun
 intro g F hF
 have hm : ∃ m, mods g = some m := by
  rw [henv] at hF
  unfold ZmN at hF
  cases hm : mods g with
  | none => simp [hm] at hF
  | some m => exact ⟨m, rfl⟩
 obtain ⟨m, hm⟩ := hm
 refine ⟨(h g m hm).entered, fun as r _ hr => ?_⟩
 rw [hown g]
 have hF' := hF
 rw [henv] at hF
 unfold ZmN at hF
 simp only [hm, Option.some.injEq] at hF
 subst hF
 simp only at hr
 split at hr
 ·rename_i hx
  obtain ⟨x, hx'⟩ := hx
  subst hx'
  have := ZoS hU hm (by rw [henv] at hF'; exact hF') x
  have hr' : (m.fn x).map (U.enc m.rt) = some r := by
   rw [<- this]
   simp only [dif_pos (⟨x, rfl⟩ : ∃ y : ZjY U m.ts, Z23 m.ts y = Z23 m.ts x)]
   exact hr
  cases hfx : m.fn x with
  | none => simp [hfx] at hr'
  | some a =>
   simp only [hfx, Option.map_some, Option.some.injEq] at hr'
   subst hr'
   exact (h g m hm).pure x a hfx
 ·cases hr
theorem ZpG {P : Program} {E : Env} (hE : Z15 E) (hP : E.P = P) (hF : Znx P E) {n : Nat} {f : FuncId} {fn : Func} (hfn : E.func f = some fn) {c : Code} (hb : fn.body = some c) {as : List V} {r : V} {H1 : Heap}
  (h : Z1C (Z5D E n) E f fn 0 (Zp E fn) (.run c) [] ⟨as ++ List.replicate (fn.ntmps - as.length) Z0X, []⟩ (r, H1)) : Z9U P f /\ Zhd P E f as r := by
 obtain ⟨hf1, hf2⟩ := hE.func f fn hfn
 rw [hP] at hf1
 refine ⟨⟨fn, hf1, by simp [hb], hf2⟩, ?_⟩
 intro fz w vs hcells hg hr
 have hI : Inv w.heap.size (Start.of w fz) (bare fz) [] w := ⟨Below.refl _ w, Nat.le_refl _, fun id L hL => (by cases hL), fun id bx hb => by simp at hb, fun i j b1 b2 L1 L2 g h1 => by simp at h1, hcells,
  fun b c hc id bx L hb => by simp at hb, fun id bx hb => by simp at hb, fun b c hc _ => hc, fun b hb => hb.elim⟩
 have hslots : Zv (bare fz) w (as ++ List.replicate (fn.ntmps - as.length) Z0X) (vs.toArray ++ Array.replicate (fn.ntmps - vs.toArray.size) undef).toList := by
  simp only [Array.toList_append, Array.toList_replicate, List.size_toArray]
  rw [<- hr.length]
  exact hr.append (Zv.replicate _ (.no .nil))
 have hrel : Rel E w.heap.size (Start.of w fz) (bare fz) ⟨as ++ List.replicate (fn.ntmps - as.length) Z0X, []⟩ { tmps := vs.toArray ++ Array.replicate (fn.ntmps - vs.toArray.size) undef, defers := [] } w := ⟨hI, hg, hslots, rfl⟩
 have hwp := ZvU hE hP (Ztr hE hP hF n w.heap.size (Start.of w fz)) (Z8W n) (F := Fin P fn w.heap.size (Start.of w fz)) (σ0 := bare fz) (ws := w)
  (fun st r σ a w' hz hr hx => ZCr hE hP hr (fun b c hh => (hx.fz b c hh).1) hz) h (hE.calm f fn c hfn hb) rfl _ _ _ hrel (Ext.refl _ _).k
 refine calls_of_wp hf1 hb ?_
 intro fr k cs
 obtain ⟨e, a', w', hq, harr⟩ := hwp fr k cs
 refine ⟨e, a', w', ?_, harr⟩
 cases e with
 | normal =>
  obtain ⟨h0, u, fz', h1, h2, h3, h4, h5, h6, h7⟩ := hq
  exact ⟨h0, u, h1, u, fz', rfl, h2, h3, h4, h5, h6, h7⟩
 | ret =>
  obtain ⟨h0, u, fz', h1, h2, h3, h4, h5, h6, h7⟩ := hq
  exact ⟨h0, u, h1, u, fz', rfl, h2, h3, h4, h5, h6, h7⟩
 | exit id => exact hq.elim
 | goto l => exact hq.elim
 | panic c => exact hq.elim
 | outgrown => exact hq.elim
theorem ZpP {P : Program} {E : Env} (hE : Z15 E) (hP : E.P = P) (hF : Znx P E) {n : Nat} {f : FuncId} {fn : Func} (hfn : E.func f = some fn) {c : Code} (hb : fn.body = some c) {as : List V} {H0 : Heap} {r : V} {H1 : Heap} {fa : List (List Fk)} {fb : List Bf} {k : Nat} (hk : H0.length = k)
  (h : Z1C (Z5D E n) E f fn k (Zh E fn fa fb k) (.run c) [] ⟨as ++ List.replicate (fn.ntmps - as.length) Z0X, H0⟩ (r, H1)) : Z9U P f /\ ZsX P E f as H0 r H1 := by
 obtain ⟨hf1, hf2⟩ := hE.func f fn hfn
 rw [hP] at hf1
 refine ⟨⟨fn, hf1, by simp [hb], hf2⟩, ?_⟩
 intro B w0 σ w vs hI hg hr
 have hslots : Zv σ w (as ++ List.replicate (fn.ntmps - as.length) Z0X) (vs.toArray ++ Array.replicate (fn.ntmps - vs.toArray.size) undef).toList := by
  simp only [Array.toList_append, Array.toList_replicate, List.size_toArray]
  rw [<- hr.length]
  exact hr.append (Zv.replicate _ (.no .nil))
 have hrel : Rel E B w0 σ ⟨as ++ List.replicate (fn.ntmps - as.length) Z0X, H0⟩ { tmps := vs.toArray ++ Array.replicate (fn.ntmps - vs.toArray.size) undef, defers := [] } w := ⟨hI, hg, hslots, rfl⟩
 have hwp := ZvU hE hP (Ztr hE hP hF n B w0) (Z8W n) (F := FinH P fn B w0 σ w) (σ0 := σ) (ws := w)
  (fun st r σ' a w' hz hr hx => ZAN hE hP (fun id L hL => by rw [<- hk]; exact hI.Zxu hL) hr hx hz) h (hE.calm f fn c hfn hb) rfl _ _ _ hrel (Ext.refl _ _).k
 refine calls_of_wp hf1 hb ?_
 intro fr k cs
 obtain ⟨e, a', w', hq, harr⟩ := hwp fr k cs
 refine ⟨e, a', w', ?_, harr⟩
 cases e with
 | normal =>
  obtain ⟨h0, u, σ', h1, h2, h3, h4⟩ := hq
  exact ⟨h0, u, h1, u, σ', rfl, h2, h3, h4⟩
 | ret =>
  obtain ⟨h0, u, σ', h1, h2, h3, h4⟩ := hq
  exact ⟨h0, u, h1, u, σ', rfl, h2, h3, h4⟩
 | exit id => exact hq.elim
 | goto l => exact hq.elim
 | panic c => exact hq.elim
 | outgrown => exact hq.elim
theorem Ztv {L R : Type} {J : L -> Option R} : ∀ {T : Tr U L} {r : R}, T.den J = some r -> ∃ l, T.Zz l /\ J l = some r := by
 intro T
 induction T with
 | leaf l => intro r h; exact ⟨l, rfl, h⟩
 | br c a b iha ihb =>
  intro r h
  cases c with
  | true => obtain ⟨l, h1, h2⟩ := iha h; exact ⟨l, .inl ⟨rfl, h1⟩, h2⟩
  | false => obtain ⟨l, h1, h2⟩ := ihb h; exact ⟨l, .inr ⟨rfl, h1⟩, h2⟩
 | bind t o k ih =>
  intro r h
  cases o with
  | none => cases h
  | some a => obtain ⟨l, h1, h2⟩ := ih a h; exact ⟨l, ⟨a, rfl, h1⟩, h2⟩
 | chk c a ih =>
  intro r h
  cases c with
  | true => obtain ⟨l, h1, h2⟩ := ih h; exact ⟨l, ⟨rfl, h1⟩, h2⟩
  | false => cases h
 | fail => intro r h; cases h
theorem Zzf {L M : Type} {g : L -> M} : ∀ {T : Tr U L} {l : L}, T.Zz l -> (T.map g).Zz (g l) := by
 intro T
 induction T with
 | leaf l => intro l h; simp only [Tr.Zz] at h; subst h; rfl
 | br c a b iha ihb =>
  intro l h
  rcases h with ⟨hc, h⟩ | ⟨hc, h⟩
  ·exact .inl ⟨hc, iha h⟩
  ·exact .inr ⟨hc, ihb h⟩
 | bind t o k ih => rintro l ⟨a, ha, h⟩; exact ⟨a, ha, ih a h⟩
 | chk c a ih => rintro l ⟨hc, h⟩; exact ⟨hc, ih h⟩
 | fail => intro l h; exact h
def nav : Code -> List Nat -> List Fr -> Code × List Fr
 | .seq a b, 0 :: p, K => nav a p (.seq b :: K)
 | .seq a b, _ :: p, K => nav b p K
 | .cond _ a b, 0 :: p, K => nav a p K
 | .cond _ a b, _ :: p, K => nav b p K
 | .block id b, _ :: p, K => nav b p (.blk id :: K)
 | .loop b, _ :: p, K => nav b p (.loop b :: K)
 | c, _, K => (c, K)
def ZkM (fn : Func) : Code := match fn.body with | some c => c | none => .skip
open Classical in
noncomputable def ZCL {α : Type} (g : Nat -> Option α) : Option α := if h : ∃ n a, g n = some a then g (Classical.choose h) else none
theorem ZlJ {α : Type} {g : Nat -> Option α} {a : α} (h : ZCL g = some a) : ∃ n, g n = some a := by
 unfold ZCL at h
 split at h
 ·exact ⟨_, h⟩
 ·cases h
def Mono {α : Type} (g : Nat -> Option α) : Prop := ∀ n a, g n = some a -> g (n + 1) = some a
theorem Mono.le {α : Type} {g : Nat -> Option α} (hg : Mono g) {n m : Nat} {a : α} (h : g n = some a) (hle : n <= m) : g m = some a := by
 induction hle with
 | refl => exact h
 | step _ ih => exact hg _ _ ih
theorem ZAh {α : Type} {g : Nat -> Option α} (hg : Mono g) {n : Nat} {a : α} (h : g n = some a) : ZCL g = some a := by
 unfold ZCL
 have hex : ∃ n a, g n = some a := ⟨n, a, h⟩
 rw [dif_pos hex]
 obtain ⟨b, hb⟩ := Classical.choose_spec hex
 have h1 := hg.le h (Nat.le_max_left n (Classical.choose hex))
 have h2 := hg.le hb (Nat.le_max_right n (Classical.choose hex))
 rw [hb]
 rw [h1] at h2
 exact h2.symm
end
abbrev w64 (x : Int) : Int := IntKind.wrap .i64 x
end Go.Proofs.YtefmbgacbhifdaaGreat.Le
namespace Go.Proofs.YtefmbgacbhifdaaGreat.Le
structure Z8 (Ty : Nat -> Type) (T : Type) where
 ZU : T -> List V
 encS : T -> List (SV Ty)
 dec : List (SV Ty) -> Option (T × List (SV Ty))
section
variable {Ty : Nat -> Type}
def Z8.int (k : IntKind) : Z8 Ty Int where
 ZU := fun a => [.lit (.int k a)]
 encS := fun a => [.si k a]
 dec := fun cs => match cs with
  | .si j a :: r => if j = k then some (a, r) else none
  | .lit (.int j a) :: r => if j = k then some (a, r) else none
  | _ => none
def Z8.bool : Z8 Ty Bool where
 ZU := fun b => [.lit (.bool b)]
 encS := fun b => [.sb b]
 dec := fun cs => match cs with
  | .sb b :: r => some (b, r)
  | .lit (.bool b) :: r => some (b, r)
  | _ => none
def Z8.str : Z8 Ty ByteArray where
 ZU := fun b => [.lit (.string b)]
 encS := fun b => [.ss b]
 dec := fun cs => match cs with
  | .ss b :: r => some (b, r)
  | .lit (.string b) :: r => some (b, r)
  | _ => none
def Z8.list (t n : Nat) (e : Ty t -> V) : Z8 Ty (List (Ty t)) where
 ZU := fun xs => [.sl false n (xs.map e)]
 encS := fun xs => [.sl t xs]
 dec := fun cs => match cs with
  | .sl t' xs :: r => if h : t' = t then some (h ▸ xs, r) else none
  | .nil _ :: r => some ([], r)
  | _ => none
def Z8.unit : Z8 Ty Unit where
 ZU := fun _ => []
 encS := fun _ => []
 dec := fun cs => some ((), cs)
def Z8.pair {A B : Type} (a : Z8 Ty A) (b : Z8 Ty B) : Z8 Ty (A × B) where
 ZU := fun x => a.ZU x.1 ++ b.ZU x.2
 encS := fun x => a.encS x.1 ++ b.encS x.2
 dec := fun cs => match a.dec cs with
  | some (x, r) => match b.dec r with | some (y, r') => some ((x, y), r') | none => none
  | none => none
def Z8.iso {A B : Type} (f : A -> B) (g : B -> A) (b : Z8 Ty B) : Z8 Ty A where
 ZU := fun x => b.ZU (f x)
 encS := fun x => b.encS (f x)
 dec := fun cs => match b.dec cs with | some (y, r) => some (g y, r) | none => none
def Z8.agg {T : Type} (c : Z8 Ty T) (v : SV Ty) : Option T := match v with
 | .agg cs => match c.dec cs with | some (a, []) => some a | _ => none
 | _ => none
def Z8.one {T : Type} (c : Z8 Ty T) (v : SV Ty) : Option T := match c.dec [v] with | some (a, []) => some a | _ => none
def Z8.ZF {T : Type} (c : Z8 Ty T) (a : T) : V := (c.ZU a).headD .no
def Z8.Z22 {T : Type} (c : Z8 Ty T) (a : T) : SV Ty := (c.encS a).headD .no
end
structure Z7 (U : Z9c) {T : Type} (c : Z8 U.Ty T) (rs : List Nat) : Prop where
 enc : ∀ a, ZY U (c.encS a) = c.ZU a
 len : ∀ a, (c.ZU a).length = rs.length
 dec : ∀ cs a rest, c.dec cs = some (a, rest) -> ∃ pre, cs = pre ++ rest /\ pre.length = rs.length /\ Z1J rs (ZY U pre) = c.ZU a
 nr : ∀ a, ZH (c.ZU a) = true
 inj : ∀ a b, c.ZU a = c.ZU b -> a = b
section
variable {U : Z9c}
theorem Z7.int (k : IntKind) : Z7 U (Z8.int k : Z8 U.Ty Int) [0] := by
 refine ⟨fun a => rfl, fun a => rfl, ?_, fun a => rfl, fun a b h => by simpa [Z8.int] using h⟩
 intro cs a rest h
 simp only [Z8.int] at h
 split at h
 ·rename_i j x r
  split at h
  ·rename_i hj
   simp only [Option.some.injEq, Prod.mk.injEq] at h
   obtain ⟨rfl, rfl⟩ := h
   subst hj
   exact ⟨[_], rfl, rfl, rfl⟩
  ·cases h
 ·rename_i j x r
  split at h
  ·rename_i hj
   simp only [Option.some.injEq, Prod.mk.injEq] at h
   obtain ⟨rfl, rfl⟩ := h
   subst hj
   exact ⟨[_], rfl, rfl, rfl⟩
  ·cases h
 ·cases h
theorem Z7.bool : Z7 U (Z8.bool : Z8 U.Ty Bool) [0] := by
 refine ⟨fun a => rfl, fun a => rfl, ?_, fun a => rfl, fun a b h => by simpa [Z8.bool] using h⟩
 intro cs a rest h
 simp only [Z8.bool] at h
 split at h <;> cases h <;> exact ⟨[_], rfl, rfl, rfl⟩
theorem Z7.str : Z7 U (Z8.str : Z8 U.Ty ByteArray) [0] := by
 refine ⟨fun a => rfl, fun a => rfl, ?_, fun a => rfl, fun a b h => by simpa [Z8.str] using h⟩
 intro cs a rest h
 simp only [Z8.str] at h
 split at h <;> cases h <;> exact ⟨[_], rfl, rfl, rfl⟩
theorem ZAA {α β : Type} {f : α -> β} (hf : ∀ a b, f a = f b -> a = b) : ∀ {xs ys : List α}, xs.map f = ys.map f -> xs = ys := by
 intro xs
 induction xs with
 | nil => intro ys h; cases ys with
  | nil => rfl
  | cons => simp at h
 | cons x xs ih => intro ys h; cases ys with
  | nil => simp at h
  | cons y ys =>
   simp only [List.map_cons, List.cons.injEq] at h
   rw [hf _ _ h.1, ih h.2]
theorem Z7.list {t n : Nat} {e : U.Ty t -> V} (he : ∀ a, U.enc t a = e a) (hn : U.esz t = n) (hnr : ∀ a, Z05 (e a) = true) (hinj : ∀ a b, e a = e b -> a = b) : Z7 U (Z8.list t n e : Z8 U.Ty (List (U.Ty t))) [n] := by
 have hmap : ∀ xs : List (U.Ty t), xs.map (U.enc t) = xs.map e := fun xs => List.map_congr_left fun a _ => he a
 refine ⟨fun a => ?_, fun a => rfl, ?_, fun a => ?_, fun a b h => ?_⟩
 ·simp [Z8.list, ZY, toV, hn, hmap]
 ·intro cs a rest h
  simp only [Z8.list] at h
  split at h
  ·rename_i t' xs r
   split at h
   ·rename_i ht
    subst ht
    simp only [Option.some.injEq, Prod.mk.injEq] at h
    obtain ⟨rfl, rfl⟩ := h
    exact ⟨[_], rfl, rfl, by simp [ZY, toV, Z1J, Z2a, Z8.list, hn, hmap]⟩
   ·cases h
  ·cases h
   exact ⟨[_], rfl, rfl, by simp [ZY, toV, Z1J, Z2a, Z8.list]⟩
  ·cases h
 ·simp only [Z8.list, ZH, Z05, Bool.and_true]
  rw [Z2d]
  intro x hx
  obtain ⟨y, _, rfl⟩ := List.mem_map.1 hx
  exact hnr y
 ·simp only [Z8.list, List.cons.injEq, V.sl.injEq, true_and, and_true] at h
  exact ZAA hinj h
theorem Z7.unit : Z7 U (Z8.unit : Z8 U.Ty Unit) [] :=
 ⟨fun a => rfl, fun a => rfl, fun cs a rest h => by cases h; exact ⟨[], rfl, rfl, rfl⟩, fun a => rfl, fun a b _ => rfl⟩
theorem ZmZ : ∀ (r1 r2 : List Nat) (x y : List V), x.length = r1.length -> Z1J (r1 ++ r2) (x ++ y) = Z1J r1 x ++ Z1J r2 y := by
 intro r1
 induction r1 with
 | nil => intro r2 x y h; cases x with
  | nil => simp [Z1J]
  | cons => simp at h
 | cons r r1 ih => intro r2 x y h; cases x with
  | nil => simp at h
  | cons v x => simp [Z1J, ih r2 x y (by simpa using h)]
theorem Zpu (x y : List V) : ZH (x ++ y) = (ZH x && ZH y) := by
 induction x with
 | nil => simp [ZH]
 | cons a x ih => simp [ZH, ih, Bool.and_assoc]
theorem Z7.pair {A B : Type} {a : Z8 U.Ty A} {b : Z8 U.Ty B} {r1 r2 : List Nat} (ha : Z7 U a r1) (hb : Z7 U b r2) : Z7 U (Z8.pair a b) (r1 ++ r2) := by
 refine ⟨fun x => ?_, fun x => ?_, ?_, fun x => ?_, fun x y h => ?_⟩
 ·simp only [Z8.pair, Z3K, ha.enc, hb.enc]
 ·simp only [Z8.pair, List.length_append, ha.len, hb.len]
 ·intro cs x rest h
  simp only [Z8.pair] at h
  split at h
  ·rename_i p r hp
   split at h
   ·rename_i q r' hq
    cases h
    obtain ⟨p1, e1, l1, t1⟩ := ha.dec _ _ _ hp
    obtain ⟨p2, e2, l2, t2⟩ := hb.dec _ _ _ hq
    refine ⟨p1 ++ p2, by rw [e1, e2, List.append_assoc], by simp [l1, l2], ?_⟩
    rw [Z3K, ZmZ _ _ _ _ (by rw [Z0p]; exact l1), t1, t2]
    rfl
   ·cases h
  ·cases h
 ·simp only [Z8.pair, Zpu, ha.nr, hb.nr, Bool.and_self]
 ·simp only [Z8.pair] at h
  obtain ⟨h1, h2⟩ := List.append_inj h (by rw [ha.len, ha.len])
  obtain ⟨x1, x2⟩ := x
  obtain ⟨y1, y2⟩ := y
  exact Prod.ext (ha.inj _ _ h1) (hb.inj _ _ h2)
theorem Z7.iso {A B : Type} {f : A -> B} {g : B -> A} {b : Z8 U.Ty B} {r : List Nat} (hb : Z7 U b r) (hfg : ∀ y, f (g y) = y) (hgf : ∀ x, g (f x) = x) : Z7 U (Z8.iso f g b) r := by
 refine ⟨fun x => hb.enc _, fun x => hb.len _, ?_, fun x => hb.nr _, fun x y h => ?_⟩
 ·intro cs x rest h
  simp only [Z8.iso] at h
  split at h
  ·rename_i y r' hy
   cases h
   obtain ⟨p, e, l, t⟩ := hb.dec _ _ _ hy
   exact ⟨p, e, l, by simp only [Z8.iso, hfg]; exact t⟩
  ·cases h
 ·have := hb.inj _ _ h
  rw [<- hgf x, this, hgf]
theorem Z7.agg {T : Type} {c : Z8 U.Ty T} {r : List Nat} (h : Z7 U c r) {v : SV U.Ty} {a : T} (hd : c.agg v = some a) : Z0Y r (toV U v) = .agg (c.ZU a) := by
 unfold Z8.agg at hd
 split at hd
 ·split at hd
  ·rename_i cs _ hcs
   cases hd
   obtain ⟨p, e, l, t⟩ := h.dec _ _ _ hcs
   simp only [List.append_nil] at e
   subst e
   simp only [toV, Z0Y, t]
  ·cases hd
 ·cases hd
theorem Z7.one {T : Type} {c : Z8 U.Ty T} {n : Nat} (h : Z7 U c [n]) {v : SV U.Ty} {a : T} (hd : c.one v = some a) (hv : ∀ cs, toV U v ≠ .agg cs) : Z0Y [n] (toV U v) = c.ZF a := by
 unfold Z8.one at hd
 split at hd
 ·rename_i hcs
  cases hd
  obtain ⟨p, e, l, t⟩ := h.dec _ _ _ hcs
  simp only [List.append_nil] at e
  subst e
  simp only [ZY, Z1J] at t
  unfold Z8.ZF
  rw [<- t]
  unfold Z0Y
  split
  ·rename_i cs hcs'; exact absurd hcs' (hv cs)
  ·rfl
 ·cases hd
theorem Zku {k : IntKind} {v : SV U.Ty} {a : Int} (h : (Z8.int k : Z8 U.Ty Int).one v = some a) : ∀ cs, toV U v ≠ .agg cs := by
 rintro cs hc
 cases v <;> simp_all [toV, Z8.one, Z8.int]
theorem ZAa {v : SV U.Ty} {a : Bool} (h : (Z8.bool : Z8 U.Ty Bool).one v = some a) : ∀ cs, toV U v ≠ .agg cs := by
 rintro cs hc
 cases v <;> simp_all [toV, Z8.one, Z8.bool]
theorem ZD2 {v : SV U.Ty} {a : ByteArray} (h : (Z8.str : Z8 U.Ty ByteArray).one v = some a) : ∀ cs, toV U v ≠ .agg cs := by
 rintro cs hc
 cases v <;> simp_all [toV, Z8.one, Z8.str]
theorem Z4w {t n : Nat} {e : U.Ty t -> V} {v : SV U.Ty} {a : List (U.Ty t)} (h : (Z8.list t n e : Z8 U.Ty (List (U.Ty t))).one v = some a) : ∀ cs, toV U v ≠ .agg cs := by
 rintro cs hc
 cases v <;> simp_all [toV, Z8.one, Z8.list]
theorem Z7.Z0o {T : Type} {c : Z8 U.Ty T} {n : Nat} (h : Z7 U c [n]) (a : T) : toV U (c.Z22 a) = c.ZF a := by
 unfold Z8.Z22 Z8.ZF
 rw [<- h.enc a]
 have hl := h.len a
 rw [<- h.enc a, Z0p] at hl
 cases hs : c.encS a with
 | nil => rw [hs] at hl; simp at hl
 | cons x xs => rfl
theorem Z7.Z0L {T : Type} {c : Z8 U.Ty T} {n : Nat} (h : Z7 U c [n]) {a b : T} (he : c.ZF a = c.ZF b) : a = b := by
 refine h.inj a b ?_
 have h1 := h.len a
 have h2 := h.len b
 unfold Z8.ZF at he
 cases ha : c.ZU a with
 | nil => rw [ha] at h1; simp at h1
 | cons x xs =>
  cases hb : c.ZU b with
  | nil => rw [hb] at h2; simp at h2
  | cons y ys =>
   rw [ha, hb] at he
   rw [ha] at h1
   rw [hb] at h2
   simp only [List.headD_cons] at he
   have hx : xs = [] := by simpa using h1
   have hy : ys = [] := by simpa using h2
   rw [he, hx, hy]
theorem Z7.Z27 {T : Type} {c : Z8 U.Ty T} {n : Nat} (h : Z7 U c [n]) (a : T) : Z05 (c.ZF a) = true := by
 have := h.nr a
 unfold Z8.ZF
 cases ha : c.ZU a with
 | nil => rfl
 | cons x xs => rw [ha] at this; simp [ZH] at this; exact this.1
end
def Z8.skip {Ty : Nat -> Type} : Z8 Ty Unit where
 ZU := fun _ => [.und]
 encS := fun _ => [.und]
 dec := fun cs => match cs with
  | .und :: r => some ((), r)
  | _ => none
theorem Z7.skip {U : Z9c} : Z7 U (Z8.skip : Z8 U.Ty Unit) [0] := by
 refine ⟨fun a => rfl, fun a => rfl, ?_, fun a => rfl, fun a b _ => rfl⟩
 intro cs a rest h
 simp only [Z8.skip] at h
 split at h <;> cases h
 exact ⟨[_], rfl, rfl, rfl⟩
def rawS {Ty : Nat -> Type} : V -> SV Ty
 | .lit v => .lit v
 | .und => .und
 | _ => .no
def Zwc : V -> Bool
 | .lit _ => true
 | .und => true
 | _ => false
def Z8.ZxZ {Ty : Nat -> Type} {T : Type} (c : Z8 Ty T) (n : Nat) (a : T) : V := .ept n [.agg (c.ZU a)] 0 0
def Z8.ptrD {Ty : Nat -> Type} {T : Type} (c : Z8 Ty T) (n : Nat) (v : SV Ty) : Option T := match v with
 | .raw (.ept m [.agg cs] 0 0) => if m = n /\ cs.all Zwc = true then c.agg (.agg (cs.map rawS)) else none
 | _ => none
theorem ZyU {U : Z9c} : ∀ {cs : List V}, cs.all Zwc = true -> ZY U (cs.map rawS) = cs := by
 intro cs
 induction cs with
 | nil => intro _; rfl
 | cons c cs ih =>
  intro h
  simp only [List.all_cons, Bool.and_eq_true] at h
  simp only [List.map_cons, ZY, ih h.2]
  cases c <;> simp_all [Zwc, rawS, toV]
theorem ZuT : ∀ {cs : List V}, cs.all Zwc = true -> ∀ rs, Z1J rs cs = cs := by
 intro cs
 induction cs with
 | nil => intro _ rs; cases rs <;> rfl
 | cons c cs ih =>
  intro h rs
  simp only [List.all_cons, Bool.and_eq_true] at h
  cases rs with
  | nil => rfl
  | cons r rs =>
   simp only [Z1J, ih h.2]
   cases c <;> simp_all [Zwc, Z2a]
theorem Z7.ZAs {U : Z9c} {T : Type} {c : Z8 U.Ty T} {r : List Nat} (h : Z7 U c r) {n : Nat} {v : SV U.Ty} {a : T} (hd : c.ptrD n v = some a) (rs : List Nat) : Z0Y rs (toV U v) = c.ZxZ n a := by
 unfold Z8.ptrD at hd
 split at hd
 ·rename_i m cs
  split at hd
  ·rename_i hc
   obtain ⟨rfl, hall⟩ := hc
   have := h.agg hd
   simp only [toV, Z0Y, ZyU hall, V.agg.injEq] at this
   rw [ZuT hall] at this
   simp only [toV, Z0Y, Z2a, Z8.ZxZ, this]
  ·cases hd
 ·cases hd
theorem Z7.ZCT {U : Z9c} {T : Type} {c : Z8 U.Ty T} {r : List Nat} (h : Z7 U c r) (n : Nat) (a : T) : Z05 (c.ZxZ n a) = true := by
 simp [Z8.ZxZ, Z05, ZH, h.nr]
theorem Z7.ZAb {U : Z9c} {T : Type} {c : Z8 U.Ty T} {r : List Nat} (h : Z7 U c r) {n : Nat} {a b : T} (he : c.ZxZ n a = c.ZxZ n b) : a = b := by
 simp only [Z8.ZxZ, V.ept.injEq, List.cons.injEq, V.agg.injEq, and_true, true_and] at he
 exact h.inj _ _ he
end Go.Proofs.YtefmbgacbhifdaaGreat.Le
namespace Go.Proofs.YtefmbgacbhifdaaGreat.Le
noncomputable def EV {U : Z9c} (P : Program) (gl : Nat -> Option (List V)) (f : FuncId) (mods : FuncId -> Option (Mod U)) (hmods : FuncId -> List FuncId -> Option (HMod U)) : Env :=
 { Z6R P (fun _ => false) (ZmN mods) with
  func := fun g => if g = f then P.funcs[g]? else none
  Zcy := gl
  hm := ZBy hmods
  par := fun g => match mods g with | some m => m.ts | none => [] }
section
variable {U : Z9c} {P : Program} {gl : Nat -> Option (List V)} {f : FuncId} {mods : FuncId -> Option (Mod U)} {hmods : FuncId -> List FuncId -> Option (HMod U)}
theorem ZCh (hmix : P.follows .mixedOrders = true) {fn : Func} {c : Code} (hfn : P.funcs[f]? = some fn) (hname : (fn.name == "runtime.NumGoroutine") = false) (hb : fn.body = some c) (hcalm : Z5L (EV P gl f mods hmods) f c = true) : Z15 (EV P gl f mods hmods) := by
 refine ⟨fun t i h => h, ?_, hmix, ?_, ?_, ?_, ?_, fun t ks h => h, ?_⟩
 ·intro g fn' h
  simp only [EV] at h
  split at h
  ·rename_i hg
   subst hg
   rw [hfn] at h
   cases h
   exact ⟨hfn, hname⟩
  ·cases h
 ·intro g fn' c' h hb'
  simp only [EV] at h
  split at h
  ·rename_i hg
   subst hg
   rw [hfn] at h
   cases h
   rw [hb] at hb'
   cases hb'
   exact hcalm
  ·cases h
 ·intro t k h
  simp only [EV, Z6R] at h
  split at h
  ·rename_i d hd
   simp only [Option.some.injEq] at h
   subst h
   exact hd
  ·cases h
 ·intro t h
  simp only [EV, Z6R] at h
  split at h
  ·rename_i hd; exact hd
  ·cases h
 ·intro t h
  simp only [EV, Z6R] at h
  split at h
  ·rename_i hd; exact hd
  ·cases h
 ·intro t h
  simp only [EV, Z6R] at h
  split at h
  ·rename_i e he
   split at h
   ·rename_i hd; exact ⟨e, he, hd⟩
   ·cases h
  ·cases h
def Zk5 : (ts : List Nat) -> ZjY U ts -> List (SV U.Ty)
 | [], _ => []
 | t :: ts, x => U.encS t x.1 :: Zk5 ts x.2
def Zq3 (ts : List Nat) (x : ZjY U ts) (n : Nat) : SSt U := ⟨Zk5 ts x ++ List.replicate (n - ts.length) .no, []⟩
theorem Zqc {E : Env} (hU : Z0n U E) : ∀ {ts : List Nat} (x : ZjY U ts), ZY U (Zk5 ts x) = Z23 ts x := by
 intro ts
 induction ts with
 | nil => intro x; rfl
 | cons t ts ih => intro x; simp only [Zk5, ZY, Z23, hU.encS, ih]
theorem Zm1 : ∀ {ts : List Nat} (x : ZjY U ts), (Z23 ts x).length = ts.length := by
 intro ts
 induction ts with
 | nil => intro x; rfl
 | cons t ts ih => intro x; simp [Z23, ih]
theorem ZuG {E : Env} (hU : Z0n U E) {ts : List Nat} (x : ZjY U ts) (n : Nat) : Z45 U (Zq3 ts x n) = ⟨Z23 ts x ++ List.replicate (n - (Z23 ts x).length) Z0X, []⟩ := by
 simp only [Z45, Zq3, Z3K, Zqc hU, Zm1]
 congr 1
 congr 1
 rw [Z0H, List.map_replicate]
 rfl
theorem fn_ok {E0 : Env} (hE0 : E0.Zcy = gl) (hU : Z0n U (EV P gl f mods hmods)) (hmix : P.follows .mixedOrders = true) {fn : Func} {c : Code} (hok : ∀ g m, mods g = some m -> Z1p P E0 g m) (hhok : ∀ g k m, hmods g k = some m -> Z29 P E0 g m) (hfn : P.funcs[f]? = some fn) (hname : (fn.name == "runtime.NumGoroutine") = false)
  (hb : fn.body = some c) (hcalm : Z5L (EV P gl f mods hmods) f c = true) (m : Mod U)
  (h : ∀ x a, m.fn x = some a -> Z1C (Z5D (EV P gl f mods hmods) 1) (EV P gl f mods hmods) f fn 0 (Zp (EV P gl f mods hmods) fn) (.run c) [] (Z45 U (Zq3 m.ts x fn.ntmps)) (U.enc m.rt a, [])) : Z1p P E0 f m := by
 have hE := ZCh (gl := gl) (mods := mods) hmix hfn hname hb hcalm
 have hF : Znx P (EV P gl f mods hmods) := ZpE hU rfl rfl (fun _ => rfl) (fun g m hm => (hok g m hm).Zcy (by rw [hE0]; rfl)) (fun g k m hm => (hhok g k m hm).Zcy (by rw [hE0]; rfl))
 have hfn' : (EV P gl f mods hmods).func f = some fn := by simp only [EV, if_true]; exact hfn
 have key : ∀ x a, m.fn x = some a -> Z9U P f /\ Zhd P (EV P gl f mods hmods) f (Z23 m.ts x) (U.enc m.rt a) := by
  intro x a hx
  have := h x a hx
  rw [ZuG hU] at this
  exact ZpG hE rfl hF hfn' hb this
 refine ⟨⟨fn, hfn, by simp [hb], hname⟩, fun x a hx fz w vs hc hg hr => (key x a hx).2 fz w vs hc ?_ hr⟩
 intro g r hh
 exact hg g r (by rw [hE0]; exact hh)
def ZqC (e : List (SV U.Ty) × ZE U) (n : Nat) : SSt U := ⟨e.1 ++ List.replicate (n - e.1.length) .no, e.2⟩
theorem Zui (e : List (SV U.Ty) × ZE U) (n : Nat) : Z45 U (ZqC e n) = ⟨ZY U e.1 ++ List.replicate (n - (ZY U e.1).length) Z0X, toH U e.2⟩ := by
 simp only [Z45, ZqC, Z3K, Z0p]
 congr 1
 congr 1
 rw [Z0H, List.map_replicate]
 rfl
theorem ZBI {E0 : Env} (hE0 : E0.Zcy = gl) (hU : Z0n U (EV P gl f mods hmods)) (hmix : P.follows .mixedOrders = true) {fn : Func} {c : Code} (hok : ∀ g m, mods g = some m -> Z1p P E0 g m) (hhok : ∀ g k m, hmods g k = some m -> Z29 P E0 g m) (hfn : P.funcs[f]? = some fn) (hname : (fn.name == "runtime.NumGoroutine") = false)
  (hb : fn.body = some c) (hcalm : Z5L (EV P gl f mods hmods) f c = true) (m : HMod U) {fa : List (List Fk)} {fb : List Bf} {k : Nat} (hk : ∀ x : m.sin.X U, (m.sin.enc x).2.length = k)
  (h : ∀ (x : m.sin.X U) (y : U.Ty m.ky), m.fn x = some y -> Z1C (Z5D (EV P gl f mods hmods) 1) (EV P gl f mods hmods) f fn k (Zh (EV P gl f mods hmods) fn fa fb k) (.run c) [] (Z45 U (ZqC (m.sin.enc x) fn.ntmps)) (toV U (m.out y).1, toH U (m.out y).2)) : Z29 P E0 f m := by
 have hE := ZCh (gl := gl) (mods := mods) (hmods := hmods) hmix hfn hname hb hcalm
 have hF : Znx P (EV P gl f mods hmods) := ZpE hU rfl rfl (fun _ => rfl) (fun g m hm => (hok g m hm).Zcy (by rw [hE0]; rfl)) (fun g k m hm => (hhok g k m hm).Zcy (by rw [hE0]; rfl))
 have hfn' : (EV P gl f mods hmods).func f = some fn := by simp only [EV, if_true]; exact hfn
 refine ⟨⟨fn, hfn, by simp [hb], hname⟩, fun x y hx B w0 σ w vs hi hg hr => ?_⟩
 have h1 := h x y hx
 rw [Zui] at h1
 exact (ZpP hE rfl hF hfn' hb (by rw [Z6o]; exact hk x) h1).2 B w0 σ w vs hi (fun g r hh => hg g r (by rw [hE0]; exact hh)) hr
theorem Zzt (hU : Z0n U (EV P gl f mods hmods)) : Zl7 U (Zs4 mods hmods) (Z5D (EV P gl f mods hmods) 1) :=
 Zy1 hU rfl rfl (fun _ => rfl) (fun g m h => by simp only [EV, h]) (fun _ => rfl) 0
end
structure Z0W (U : Z9c) (E : Env) (t : Nat) : Prop where
 encS : ∀ a, toV U (U.encS t a) = U.enc t a
 dec : ∀ v a, U.Zpw t v = some a -> Z0Y (E.rows t) (toV U v) = U.enc t a
 cells : ∀ a, (U.enc t a).cells = ZY U (cellsS (U.encS t a))
 nr : ∀ a, Z05 (U.enc t a) = true
 inj : ∀ a b, U.enc t a = U.enc t b -> a = b
end Go.Proofs.YtefmbgacbhifdaaGreat.Le
namespace Go.Proofs.YtefmbgacbhifdaaGreat.Le
section
variable {U : Z9c} {R P : Type}
def Zu {R P : Type} (g : P -> Option R) : R ⊕ P -> Option R
 | .inl r => some r
 | .inr q => g q
def ZpL (T : P -> Tr U (R ⊕ P)) : Nat -> P -> Option R
 | 0, _ => none
 | n + 1, p => (T p).den (Zu (ZpL T n))
noncomputable def ZT (T : P -> Tr U (R ⊕ P)) (p : P) : Option R := ZCL fun n => ZpL T n p
theorem ZzS {L : Type} {J K : L -> Option R} (h : ∀ l r, J l = some r -> K l = some r) : ∀ {T : Tr U L} {r : R}, T.den J = some r -> T.den K = some r := by
 intro T
 induction T with
 | leaf l => intro r hr; exact h l r hr
 | br c a b iha ihb => intro r hr; cases c with
  | true => exact iha hr
  | false => exact ihb hr
 | bind t o k ih => intro r hr; cases o with
  | none => cases hr
  | some a => exact ih a hr
 | chk c a ih => intro r hr; cases c with
  | true => exact ih hr
  | false => cases hr
 | fail => intro r hr; cases hr
theorem Zuj (T : P -> Tr U (R ⊕ P)) : ∀ n p r, ZpL T n p = some r -> ZpL T (n + 1) p = some r := by
 intro n
 induction n with
 | zero => intro p r h; cases h
 | succ n ih =>
  intro p r h
  refine ZzS ?_ h
  intro l r hl
  cases l with
  | inl a => exact hl
  | inr q => exact ih q r hl
theorem ZvL (T : P -> Tr U (R ⊕ P)) {n : Nat} {p : P} {r : R} (h : ZpL T n p = some r) : ZT T p = some r :=
 ZAh (fun n a h => Zuj T n p a h) h
theorem Zc (T : P -> Tr U (R ⊕ P)) (p : P) : ZT T p = (T p).den (Zu (ZT T)) := by
 have h1 : ∀ r, ZT T p = some r -> (T p).den (Zu (ZT T)) = some r := by
  intro r h
  obtain ⟨n, hn⟩ := ZlJ h
  cases n with
  | zero => cases hn
  | succ n =>
   refine ZzS ?_ hn
   intro l r hl
   cases l with
   | inl a => exact hl
   | inr q => exact ZvL T hl
 have h2 : ∀ r, (T p).den (Zu (ZT T)) = some r -> ZT T p = some r := by
  intro r h
  obtain ⟨l, hl, hr⟩ := Ztv h
  have key : ∃ n, (T p).den (Zu (ZpL T n)) = some r := by
   have hn : ∃ n, Zu (ZpL T n) l = some r := by
    cases l with
    | inl a => exact ⟨0, hr⟩
    | inr q => obtain ⟨n, hn⟩ := ZlJ hr; exact ⟨n, hn⟩
   obtain ⟨n, hn⟩ := hn
   refine ⟨n, ?_⟩
   have : ∀ (X : Tr U (R ⊕ P)), X.Zz l -> X.den (Zu (ZpL T n)) = some r := by
    intro X
    induction X with
    | leaf x => intro hx; simp only [Tr.Zz] at hx; subst hx; exact hn
    | br c a b iha ihb =>
     rintro (⟨rfl, hx⟩ | ⟨rfl, hx⟩)
     ·exact iha hx
     ·exact ihb hx
    | bind t o k ih => rintro ⟨a, rfl, hx⟩; exact ih a hx
    | chk c a ih => rintro ⟨rfl, hx⟩; exact ih hx
    | fail => intro hx; exact hx.elim
   exact this _ hl
  obtain ⟨n, hn⟩ := key
  exact ZvL T (n := n + 1) hn
 cases ha : ZT T p with
 | some r => exact (h1 r ha).symm
 | none =>
  cases hb : (T p).den (Zu (ZT T)) with
  | none => rfl
  | some r => rw [h2 r hb] at ha; cases ha
structure Z14 (U : Z9c) where
 c : Code
 K : List Fr
 st : SSt U
 sk : Bool
def Znt {R : Type} (out : R -> SV U.Ty × ZE U) (sp : P -> Z14 U) : R ⊕ P -> ZBu U
 | .inl r => .done (out r)
 | .inr q => .jump (sp q).c (sp q).K (sp q).st
end
def outP {U : Z9c} (rt : Nat) (r : U.Ty rt) : SV U.Ty × ZE U := (U.encS rt r, [])
end Go.Proofs.YtefmbgacbhifdaaGreat.Le
namespace Go.Proofs.YtefmbgacbhifdaaGreat.Le
structure Lay where
 keep : List Nat
 fa : List (List Fk)
 fb : List Bf
 sh : Shape
section
variable {U : Z9c}
def Zta {L : Type} (bs : List Bool) (t : Tr U L) : Tr U L := match bs with
 | [] => t
 | c :: cs => .chk (Zni (c :: cs)) t
theorem Zf3 {L : Type} {bs : List Bool} {t : Tr U L} {l : L} (h : (Zta bs t).Zz l) : (∀ b ∈ bs, b = true) /\ t.Zz l := by
 cases bs with
 | nil => exact ⟨by intro b hb; simp at hb, h⟩
 | cons c cs => exact ⟨Znd h.1, h.2⟩
def layT (kk : Nat) (l : Lay) (st : SSt U) : Tr U (SSt U) :=
 (ZtS l.fa l.fb kk (l.keep.map fun i => st.s.getD i .und) st.H).andThen fun r =>
  .when (r.1.take kk = List.range kk) (match l.sh.dec (ZeK (r.1.idxOf ·) r.2.1) (ZtY r.2.2 r.1) with
   | some x => Zta x.2 (.leaf ⟨spread .und st.s.length l.keep (l.sh.enc x.1).1, (l.sh.enc x.1).2⟩)
   | none => .fail)
theorem Zwt (s : List (SV U.Ty)) (keep : List Nat) : ZY U (keep.map fun i => s.getD i .und) = keep.map fun i => (ZY U s).getD i .und := by
 induction keep with
 | nil => rfl
 | cons i keep ih => simp only [List.map_cons, ZY, ih, <- ZcR]
theorem ZAS {E : Env} (hU : Z0n U E) {kk : Nat} {l : Lay} {st st' : SSt U} (h : (layT kk l st).Zz st') : ∃ ids as H2, pack l.fa l.fb kk (l.keep.map fun i => (Z45 U st).s.getD i .und) (Z45 U st).H = some (ids, as, H2) /\ ids.take kk = List.range kk /\
  Z45 U st' = ⟨spread .und (Z45 U st).s.length l.keep (Z94 (ids.idxOf ·) as), Zrm H2 ids⟩ := by
 simp only [layT, Zy, ZZ] at h
 obtain ⟨p, hp, hk, h⟩ := h
 have hp' := ZjW hp
 rw [Zwt] at hp'
 split at h
 ·rename_i x hx
  obtain ⟨hb, h⟩ := Zf3 h
  simp only [Tr.Zz] at h
  subst h
  obtain ⟨e1, e2⟩ := Shape.Zt1 hU hx hb
  refine ⟨_, _, _, hp', hk, ?_⟩
  rw [Z6U] at e1
  rw [ZgE] at e2
  simp only [Z45]
  rw [e1, e2, Z0p]
  congr 1
  rw [Z0H, Zv8, <- Z0H]
  rfl
 ·simp [Tr.Zz] at h
def ZyH (E : Env) (fn : Func) (fa : List (List Fk)) (fb : List Bf) (k : Nat) (sh : Shape) (one : Bool) (st : SSt U) : Tr U (SV U.Ty × ZE U) :=
 (ZzZ E fn fa fb k st).andThen fun r => match one, r.1 with
  | true, .tup _ => .fail
  | true, v => (match sh.dec [v] r.2 with
   | some x => Zta x.2 (.leaf ((sh.enc x.1).1.headD .und, (sh.enc x.1).2))
   | none => .fail)
  | false, .tup vs => (match sh.dec vs r.2 with
   | some x => Zta x.2 (.leaf (.tup (sh.enc x.1).1, (sh.enc x.1).2))
   | none => .fail)
  | false, _ => .fail
theorem ZyZ {E : Env} (hU : Z0n U E) {fn : Func} {fa : List (List Fk)} {fb : List Bf} {k : Nat} {sh : Shape} {one : Bool} {st : SSt U} {r : SV U.Ty × ZE U} (h : (ZyH E fn fa fb k sh one st).Zz r) : Zh E fn fa fb k (Z45 U st) (toV U r.1, toH U r.2) := by
 simp only [ZyH, Zy] at h
 obtain ⟨q, hq, h⟩ := h
 have hz := Zz1 hU hq
 have key : toV U q.1 = toV U r.1 /\ toH U q.2 = toH U r.2 := by
  split at h
  ·simp [Tr.Zz] at h
  ·split at h
   ·rename_i x hx
    obtain ⟨hb, h⟩ := Zf3 h
    simp only [Tr.Zz] at h
    subst h
    obtain ⟨e1, e2⟩ := Shape.Zt1 hU hx hb
    refine ⟨?_, e2⟩
    cases he : (sh.enc x.1).1 with
    | nil => rw [he] at e1; cases e1
    | cons y ys =>
     rw [he] at e1
     simp only [ZY, List.cons.injEq] at e1
     exact e1.1
   ·simp [Tr.Zz] at h
  ·rename_i vs hvs
   split at h
   ·rename_i x hx
    obtain ⟨hb, h⟩ := Zf3 h
    simp only [Tr.Zz] at h
    subst h
    obtain ⟨e1, e2⟩ := Shape.Zt1 hU hx hb
    refine ⟨?_, e2⟩
    rw [hvs]
    simp only [toV, e1]
   ·simp [Tr.Zz] at h
  ·simp [Tr.Zz] at h
 rw [<- key.1, <- key.2]
 exact hz
def ZcN (E : Env) (M : Mdl U) (A : Nat -> Option Lay) (f : FuncId) (fn : Func) (kk : Nat) (D : SSt U -> Tr U (SV U.Ty × ZE U)) : Nat -> Ctl -> List Fr -> SSt U -> Bool -> Tr U (ZBu U)
 | 0, _, _, _, _ => .fail
 | n + 1, .run c, K, st, sk =>
  match c with
  | .skip => ZcN E M A f fn kk D n .nxt K st sk
  | .region id ops draw =>
   let go : Tr U (ZBu U) := if draw then (if E.calm f id then (Zya E M ops st).andThen fun st' => ZcN E M A f fn kk D n .nxt K st' false else .fail)
    else (opsT E M ops (List.range ops.size) st).andThen fun st' => ZcN E M A f fn kk D n .nxt K st' false
   match sk with
   | true => go
   | false => match A id with
    | none => go
    | some l => (layT kk l st).andThen fun st' => .leaf (.jump (.region id ops draw) K st')
  | .seq a b => ZcN E M A f fn kk D n (.run a) (.seq b :: K) st sk
  | .cond c a b => match evS E st.s c with
   | .lit (.bool true) => ZcN E M A f fn kk D n (.run a) K st sk
   | .lit (.bool false) => ZcN E M A f fn kk D n (.run b) K st sk
   | .sb t => .br t (ZcN E M A f fn kk D n (.run a) K st sk) (ZcN E M A f fn kk D n (.run b) K st sk)
   | _ => .fail
  | .block id b => ZcN E M A f fn kk D n (.run b) (.blk id :: K) st sk
  | .loop b => ZcN E M A f fn kk D n (.run b) (.loop b :: K) st sk
  | .exit id => ZcN E M A f fn kk D n (.exit id) K st sk
  | .ret => ZcN E M A f fn kk D n .ret K st sk
  | _ => .fail
 | n + 1, .nxt, [], st, _ => (D st).andThen fun v => .leaf (.done v)
 | n + 1, .nxt, .seq c :: K, st, sk => ZcN E M A f fn kk D n (.run c) K st sk
 | n + 1, .nxt, .blk _ :: K, st, sk => ZcN E M A f fn kk D n .nxt K st sk
 | n + 1, .nxt, .loop b :: K, st, sk => ZcN E M A f fn kk D n (.run b) (.loop b :: K) st sk
 | n + 1, .exit id, .blk i :: K, st, sk => if id = i then ZcN E M A f fn kk D n .nxt K st sk else ZcN E M A f fn kk D n (.exit id) K st sk
 | n + 1, .exit id, _ :: K, st, sk => ZcN E M A f fn kk D n (.exit id) K st sk
 | n + 1, .exit _, [], _, _ => .fail
 | n + 1, .ret, [], st, _ => (D st).andThen fun v => .leaf (.done v)
 | n + 1, .ret, _ :: K, st, sk => ZcN E M A f fn kk D n .ret K st sk
theorem ZA5 {E : Env} {M : Mdl U} {A : Nat -> Option Lay} {call : Z1Y} (hU : Z0n U E) (hM : Zl7 U M call) {f : FuncId} {fn : Func} {kk : Nat} {D : SSt U -> Tr U (SV U.Ty × ZE U)} {Z : St -> V × Heap -> Prop} (hD : ∀ st s, (D st).Zz s -> Z (Z45 U st) (toV U s.1, toH U s.2)) {r : V × Heap} : ∀ (n : Nat) (ctl : Ctl) (K : List Fr) (st : SSt U) (sk : Bool) (l : ZBu U),
  (ZcN E M A f fn kk D n ctl K st sk).Zz l -> ZyA call E f fn kk Z l r -> Z1C call E f fn kk Z ctl K (Z45 U st) r := by
 intro n
 induction n with
 | zero => intro ctl K st sk l h; simp [ZcN, Tr.Zz] at h
 | succ n ih =>
  intro ctl K st sk l h hl
  cases ctl with
  | run c =>
   cases c with
   | skip => exact .skip (ih _ _ _ _ _ h hl)
   | region id ops draw =>
    simp only [ZcN] at h
    have go : (if draw = true then (if E.calm f id = true then (Zya E M ops st).andThen fun st' => ZcN E M A f fn kk D n .nxt K st' false else .fail)
      else (opsT E M ops (List.range ops.size) st).andThen fun st' => ZcN E M A f fn kk D n .nxt K st' false : Tr U (ZBu U)).Zz l -> Z1C call E f fn kk Z (.run (.region id ops draw)) K (Z45 U st) r := by
     intro hg
     cases draw with
     | true =>
      simp only [if_true] at hg
      by_cases hc : E.calm f id = true
      ·rw [if_pos hc, Zy] at hg
       obtain ⟨st1, h1, h2⟩ := hg
       exact .draw hc (Zy4 hU hM h1) (ih _ _ _ _ _ h2 hl)
      ·rw [if_neg hc] at hg
       simp [Tr.Zz] at hg
     | false =>
      simp only [Bool.false_eq_true, if_false] at hg
      rw [Zy] at hg
      obtain ⟨st1, h1, h2⟩ := hg
      exact .region (ZB3 hU hM h1) (ih _ _ _ _ _ h2 hl)
    cases sk with
    | true => exact go h
    | false =>
     simp only at h
     split at h
     ·exact go h
     ·rename_i l' hA
      simp only [Zy, Tr.Zz] at h
      obtain ⟨st1, ht, rfl⟩ := h
      obtain ⟨ids, as, H2, h1, h2, h3⟩ := ZAS hU ht
      have hl' : Z1C call E f fn kk Z (.run (.region id ops draw)) K (Z45 U st1) r := hl
      rw [h3] at hl'
      exact .ZC6 h1 h2 hl'
   | seq a b => exact .seq (ih _ _ _ _ _ h hl)
   | cond c a b =>
    simp only [ZcN] at h
    have hev : ev E (Z45 U st).s c = toV U (evS E st.s c) := Z3f E st.s c
    split at h
    ·rename_i hc
     rw [hc] at hev
     exact .cond (t := true) hev (ih _ _ _ _ _ h hl)
    ·rename_i hc
     rw [hc] at hev
     exact .cond (t := false) hev (ih _ _ _ _ _ h hl)
    ·rename_i t hc
     rw [hc] at hev
     simp only [Tr.Zz] at h
     rcases h with ⟨rfl, h⟩ | ⟨rfl, h⟩
     ·exact .cond (t := true) hev (ih _ _ _ _ _ h hl)
     ·exact .cond (t := false) hev (ih _ _ _ _ _ h hl)
    ·simp [Tr.Zz] at h
   | block id b => exact .block (ih _ _ _ _ _ h hl)
   | loop b => exact .loop (ih _ _ _ _ _ h hl)
   | exit id => exact .exit (ih _ _ _ _ _ h hl)
   | ret => exact .ret (ih _ _ _ _ _ h hl)
   | _ => simp [ZcN, Tr.Zz] at h
  | nxt =>
   cases K with
   | nil =>
    simp only [ZcN, Zy, Tr.Zz] at h
    obtain ⟨v, h1, rfl⟩ := h
    have : r = (toV U v.1, toH U v.2) := hl
    rw [this]
    exact .finN (hD _ _ h1)
   | cons x K =>
    cases x with
    | seq c => exact .nseq (ih _ _ _ _ _ h hl)
    | blk i => exact .nblk (ih _ _ _ _ _ h hl)
    | loop b => exact .ZCi (ih _ _ _ _ _ h hl)
  | exit id =>
   cases K with
   | nil => simp [ZcN, Tr.Zz] at h
   | cons x K =>
    cases x with
    | seq c => exact .ZDl (ih _ _ _ _ _ h hl)
    | blk i =>
     simp only [ZcN] at h
     split at h
     ·rename_i hi
      subst hi
      exact .eblk (ih _ _ _ _ _ h hl)
     ·rename_i hi
      exact .ZCM hi (ih _ _ _ _ _ h hl)
    | loop b => exact .ZBF (ih _ _ _ _ _ h hl)
  | ret =>
   cases K with
   | nil =>
    simp only [ZcN, Zy, Tr.Zz] at h
    obtain ⟨v, h1, rfl⟩ := h
    have : r = (toV U v.1, toH U v.2) := hl
    rw [this]
    exact .finR (hD _ _ h1)
   | cons x K => exact .rany (ih _ _ _ _ _ h hl)
theorem Zne {R P : Type} {E : Env} {M : Mdl U} {A : Nat -> Option Lay} {call : Z1Y} (hU : Z0n U E) (hM : Zl7 U M call) {f : FuncId} {fn : Func} {kk : Nat} {D : SSt U -> Tr U (SV U.Ty × ZE U)} {Z : St -> V × Heap -> Prop} (hD : ∀ st s, (D st).Zz s -> Z (Z45 U st) (toV U s.1, toH U s.2))
  {out : R -> SV U.Ty × ZE U} {N : Nat} (T : P -> Tr U (R ⊕ P)) (sp : P -> Z14 U)
  (h : ∀ p, ZcN E M A f fn kk D N (.run (sp p).c) (sp p).K (sp p).st (sp p).sk = (T p).map (Znt out sp)) {p : P} {r : R} (hr : ZT T p = some r) :
  Z1C call E f fn kk Z (.run (sp p).c) (sp p).K (Z45 U (sp p).st) (toV U (out r).1, toH U (out r).2) := by
 obtain ⟨n, hn⟩ := ZlJ hr
 clear hr
 induction n generalizing p r with
 | zero => cases hn
 | succ n ih =>
  obtain ⟨l, h1, h2⟩ := Ztv hn
  have h3 := Zzf (g := Znt out sp) h1
  rw [<- h p] at h3
  refine ZA5 hU hM hD N _ _ _ _ _ h3 ?_
  cases l with
  | inl a =>
   simp only [Zu, Option.some.injEq] at h2
   subst h2
   rfl
  | inr q => exact ih h2
end
def spot {U : Z9c} (c : Code) (p : List Nat) (n : Nat) (keep : List Nat) (e : List (SV U.Ty) × ZE U) : Z14 U := ⟨(nav c p []).1, (nav c p []).2, ⟨spread .und n keep e.1, e.2⟩, true⟩
theorem ZyW {U : Z9c} {P : Program} {gl : Nat -> Option (List V)} {f : FuncId} {mods : FuncId -> Option (Mod U)} {hmods : FuncId -> List FuncId -> Option (HMod U)} {E0 : Env} (hE0 : E0.Zcy = gl) (hU : Z0n U (EV P gl f mods hmods)) (hmix : P.follows .mixedOrders = true) {fn : Func} {c : Code}
  (hok : ∀ g m, mods g = some m -> Z1p P E0 g m) (hhok : ∀ g k m, hmods g k = some m -> Z29 P E0 g m) (hfn : P.funcs[f]? = some fn) (hname : (fn.name == "runtime.NumGoroutine") = false) (hb : fn.body = some c) (hcalm : Z5L (EV P gl f mods hmods) f c = true) (m : Mod U)
  {Pt : Type} {A : Nat -> Option Lay} {N : Nat} (T : Pt -> Tr U (U.Ty m.rt ⊕ Pt)) (sp : Pt -> Z14 U)
  (h : ∀ p, ZcN (EV P gl f mods hmods) (Zs4 mods hmods) A f fn 0 (ZyM (EV P gl f mods hmods) fn) N (.run (sp p).c) (sp p).K (sp p).st (sp p).sk = (T p).map (Znt (outP m.rt) sp))
  (b0 : ZjY U m.ts -> Pt) (hm : ∀ x, m.fn x = ZT T (b0 x)) (hsp : ∀ x, sp (b0 x) = ⟨c, [], Zq3 m.ts x fn.ntmps, false⟩) : Z1p P E0 f m := by
 refine fn_ok hE0 hU hmix hok hhok hfn hname hb hcalm m fun x a hx => ?_
 rw [hm] at hx
 have := Zne hU (Zzt hU) (fun st s hs => Zz7 hU hs) T sp h hx
 rw [hsp] at this
 simp only [outP, hU.encS] at this
 exact this
theorem Zxy {U : Z9c} {P : Program} {gl : Nat -> Option (List V)} {f : FuncId} {mods : FuncId -> Option (Mod U)} {hmods : FuncId -> List FuncId -> Option (HMod U)} {E0 : Env} (hE0 : E0.Zcy = gl) (hU : Z0n U (EV P gl f mods hmods)) (hmix : P.follows .mixedOrders = true) {fn : Func} {c : Code}
  (hok : ∀ g m, mods g = some m -> Z1p P E0 g m) (hhok : ∀ g k m, hmods g k = some m -> Z29 P E0 g m) (hfn : P.funcs[f]? = some fn) (hname : (fn.name == "runtime.NumGoroutine") = false) (hb : fn.body = some c) (hcalm : Z5L (EV P gl f mods hmods) f c = true) (m : HMod U)
  {fa : List (List Fk)} {fb : List Bf} {k : Nat} (hk : ∀ x : m.sin.X U, (m.sin.enc x).2.length = k) {Pt : Type} {A : Nat -> Option Lay} {N : Nat} (T : Pt -> Tr U (U.Ty m.ky ⊕ Pt)) (sp : Pt -> Z14 U)
  (h : ∀ p, ZcN (EV P gl f mods hmods) (Zs4 mods hmods) A f fn k (ZyH (EV P gl f mods hmods) fn fa fb k m.ZtF m.one) N (.run (sp p).c) (sp p).K (sp p).st (sp p).sk = (T p).map (Znt m.out sp))
  (b0 : m.sin.X U -> Pt) (hm : ∀ x : m.sin.X U, m.fn x = ZT T (b0 x)) (hsp : ∀ x : m.sin.X U, sp (b0 x) = ⟨c, [], ZqC (m.sin.enc x) fn.ntmps, false⟩) : Z29 P E0 f m := by
 refine ZBI hE0 hU hmix hok hhok hfn hname hb hcalm m hk (fa := fa) (fb := fb) fun x y hx => ?_
 rw [hm] at hx
 have := Zne hU (Zzt hU) (fun st s hs => ZyZ hU hs) T sp h hx
 rw [hsp] at this
 exact this
end Go.Proofs.YtefmbgacbhifdaaGreat.Le
namespace Go.Proofs.YtefmbgacbhifdaaGreat.Le
open Go.RowKit (Below)
def ZeQ (P : Program) : TypeDesc -> Option (List (Nat × TypeId))
 | .struct fs => some (fs.toList.map fun f => (f.offset, f.type))
 | .array n e => some ((List.range n).map fun i => (i * P.cellsOf e, e))
 | _ => none
def Z7O (P : Program) (t : TypeId) : Bool := match P.underlying t with | some d => d.isRow | none => false
def Z7B (P : Program) : Nat -> TypeId -> List V -> Prop
 | 0, _, _ => False
 | d + 1, t, cs => match P.underlying t with
  | some .bool => ∃ b, cs = [.lit (.bool b)]
  | some (.int k) => ∃ n, cs = [.lit (.int k n)] /\ (Lit.int k n).wf = true
  | some .string => ∃ s, cs = [.lit (.string s)] /\ s.size <= maxLen
  | some (.slice e) => ∃ xs, cs = [.sl false (P.cellsOf e) xs] /\ xs.length <= maxLen /\ ∀ x ∈ xs, (if Z7O P e then ∃ ds, x = .agg ds else x.cells = [x]) /\ Z7B P d e x.cells
  | some dd => match ZeQ P dd with
   | some ss => cs.length = P.cellsOf t /\ ∀ s ∈ ss, Z7B P d s.2 ((cs.drop s.1).take (P.cellsOf s.2))
   | none => False
  | none => False
def covers (P : Program) : Nat -> List (Nat × TypeId) -> Nat -> Bool
 | off, [], n => off == n
 | off, s :: ss, n => s.1 == off && covers P (off + P.cellsOf s.2) ss n
def Zfk (P : Program) : Nat -> TypeId -> Bool
 | 0, _ => false
 | d + 1, t => match P.underlying t with
  | some .bool => true
  | some (.int _) => true
  | some .string => true
  | some (.slice e) => Zfk P d e && decide (0 < P.cellsOf e)
  | some dd => match ZeQ P dd with
   | some ss => ss.all (fun s => Zfk P d s.2) && covers P 0 ss (P.cellsOf t)
   | none => false
  | none => false
def ZpI (w : World) : Nat -> Nat -> Prop := fun b c => ∃ u, w.cell? ⟨b, c, none⟩ = some u
structure Read (P : Program) (w : World) (d : Nat) (t : TypeId) (cs : List Value) (xs : List V) : Prop where
 Z93 : Zv (bare (ZpI w)) w xs cs
 ty : Z7B P d t xs
 ok : ∀ x ∈ xs, fzV x = true
 one : ∀ u ∈ cs, u.oneCell' = true
theorem Zr7 {P : Program} : ∀ {ss : List (Nat × TypeId)} {off n : Nat}, covers P off ss n = true -> off <= n /\ ∀ s ∈ ss, off <= s.1 /\ s.1 + P.cellsOf s.2 <= n := by
 intro ss
 induction ss with
 | nil => intro off n h; simp only [covers, beq_iff_eq] at h; exact ⟨by omega, by simp⟩
 | cons s ss ih =>
  intro off n h
  simp only [covers, Bool.and_eq_true, beq_iff_eq] at h
  obtain ⟨h1, h2⟩ := h
  obtain ⟨h3, h4⟩ := ih h2
  refine ⟨by omega, fun x hx => ?_⟩
  rcases List.mem_cons.1 hx with rfl | hx
  ·omega
  ·have := h4 x hx; omega
theorem Zvp {P : Program} {w : World} {d : Nat} {cs : List Value} : ∀ {ss : List (Nat × TypeId)} {off : Nat}, covers P off ss cs.length = true -> (∀ s ∈ ss, ∃ xs, Read P w d s.2 ((cs.drop s.1).take (P.cellsOf s.2)) xs) ->
  ∃ xs, Zv (bare (ZpI w)) w xs (cs.drop off) /\ (∀ x ∈ xs, fzV x = true) /\ (∀ u ∈ cs.drop off, u.oneCell' = true) /\ ∀ s ∈ ss, Z7B P d s.2 ((xs.drop (s.1 - off)).take (P.cellsOf s.2)) := by
 intro ss
 induction ss with
 | nil =>
  intro off hc _
  simp only [covers, beq_iff_eq] at hc
  refine ⟨[], ?_, by simp, ?_, by simp⟩
  ·rw [hc, List.drop_length]; exact .nil
  ·rw [hc, List.drop_length]; simp
 | cons s ss ih =>
  intro off hc h
  simp only [covers, Bool.and_eq_true, beq_iff_eq] at hc
  obtain ⟨h1, h2⟩ := hc
  obtain ⟨x1, r1⟩ := h s (by simp)
  obtain ⟨x2, q1, q2, q3, q4⟩ := ih h2 (fun s' hs' => h s' (by simp [hs']))
  have hle := (Zr7 h2).1
  rw [h1] at r1
  have hlen : x1.length = P.cellsOf s.2 := by
   have := r1.Z93.length
   rw [List.length_take, List.length_drop] at this
   omega
  have hcut : cs.drop off = (cs.drop off).take (P.cellsOf s.2) ++ cs.drop (off + P.cellsOf s.2) := by
   rw [<- List.drop_drop, List.take_append_drop]
  refine ⟨x1 ++ x2, ?_, ?_, ?_, ?_⟩
  ·rw [hcut]; exact r1.Z93.append q1
  ·intro x hx
   rcases List.mem_append.1 hx with hx | hx
   ·exact r1.ok x hx
   ·exact q2 x hx
  ·intro u hu
   rw [hcut] at hu
   rcases List.mem_append.1 hu with hu | hu
   ·exact r1.one u hu
   ·exact q3 u hu
  ·intro s' hs'
   rcases List.mem_cons.1 hs' with rfl | hs'
   ·rw [h1, Nat.sub_self, List.drop_zero, List.take_append_of_le_length (by omega), List.take_of_length_le (by omega)]
    exact r1.ty
   ·have hge := ((Zr7 h2).2 s' hs').1
    have : s'.1 - off = x1.length + (s'.1 - (off + P.cellsOf s.2)) := by omega
    rw [this, List.drop_append]
    have e1 : x1.drop (x1.length + (s'.1 - (off + P.cellsOf s.2))) = [] := List.drop_eq_nil_of_le (by omega)
    rw [e1, List.nil_append]
    have e2 : x1.length + (s'.1 - (off + P.cellsOf s.2)) - x1.length = s'.1 - (off + P.cellsOf s.2) := by omega
    rw [e2]
    exact q4 s' hs'
def Zvh (P : Program) (t : TypeId) (xs : List V) : V := if Z7O P t then .agg xs else xs.headD .no
def ZAv (P : Program) (t : TypeId) (cs : List Value) : Value := if Z7O P t then .agg cs.toArray else cs.headD undef
theorem Z7B.single {P : Program} {d : Nat} {t : TypeId} {xs : List V} (h : Z7B P d t xs) (hr : Z7O P t = false) : ∃ x, xs = [x] /\ x.cells = [x] := by
 cases d with
 | zero => exact h.elim
 | succ d =>
  unfold Z7B at h
  unfold Z7O at hr
  split at h
  ·obtain ⟨b, rfl⟩ := h; exact ⟨_, rfl, rfl⟩
  ·obtain ⟨n, rfl, _⟩ := h; exact ⟨_, rfl, rfl⟩
  ·obtain ⟨s, rfl, _⟩ := h; exact ⟨_, rfl, rfl⟩
  ·obtain ⟨ys, rfl, _⟩ := h; exact ⟨_, rfl, rfl⟩
  ·rename_i dd _ _ _ _ hd
   rw [hd] at hr
   split at h
   ·rename_i ss hss
    unfold ZeQ at hss
    split at hss
    ·simp [TypeDesc.isRow] at hr
    ·simp [TypeDesc.isRow] at hr
    ·cases hss
   ·exact h.elim
  ·exact h.elim
theorem Read.arg {P : Program} {w : World} {d : Nat} {t : TypeId} {cs : List Value} {xs : List V} (h : Read P w d t cs xs) :
  Zv (bare (ZpI w)) w [Zvh P t xs] [ZAv P t cs] /\ fzV (Zvh P t xs) = true /\ (ZAv P t cs).cells.toList = cs /\ (Zvh P t xs).cells = xs /\ (if Z7O P t then ∃ ds, Zvh P t xs = .agg ds else (Zvh P t xs).cells = [Zvh P t xs]) := by
 unfold Zvh ZAv
 cases hr : Z7O P t with
 | true =>
  simp only [if_true]
  refine ⟨?_, ?_, by simp [Value.cells], rfl, ⟨xs, rfl⟩⟩
  ·have := Zv.agg h.Z93 h.one (xs := []) (vs := []) .nil
   exact this
  ·simp only [fzV, okV, Z05, Bool.true_and]
   rw [Z2d]
   exact fun x hx => Z8r (h.ok x hx)
 | false =>
  simp only [Bool.false_eq_true, if_false]
  obtain ⟨x, rfl, hx⟩ := h.ty.single hr
  obtain ⟨u, us, rfl, h1, h2⟩ := h.Z93.ZL
  have : us = [] := h2.Z0w
  subst this
  refine ⟨h1, h.ok x (by simp), ?_, hx, hx⟩
  have hone := h.one u (by simp)
  simp only [List.headD_cons]
  cases u <;> simp_all [Value.cells, Value.oneCell']
section
variable {H : Type} {enc : TypeId × Value -> H} {P : Program} {w : World} {base : Nat} {held : Bool}
theorem ZAE : ∀ (d : Nat) (t : TypeId) (n : Nat) (cs : List Value) (x : DataW H × List MemPlace), Zfk P d t = true -> DataW.trod enc P w base (fun _ => true) held n t cs = some x -> ∃ xs, Read P w d t cs xs := by
 intro d
 induction d with
 | zero => intro t n cs x h; simp [Zfk] at h
 | succ d ih =>
  intro t n cs x hp h
  unfold Zfk at hp
  split at hp
  ·rename_i ht
   obtain ⟨b, rfl, _⟩ := DataW.trod_bool ht h
   exact ⟨[.lit (.bool b)], .lit rfl .nil, by unfold Z7B; rw [ht]; exact ⟨b, rfl⟩, by simp [fzV, okV, Z05], by simp [Value.oneCell']⟩
  ·rename_i k ht
   obtain ⟨m, rfl, _, hw⟩ := DataW.trod_int ht h
   exact ⟨[.lit (.int k m)], .lit (by simp [leaf, hw]) .nil, by unfold Z7B; rw [ht]; exact ⟨m, rfl, hw⟩, by simp [fzV, okV, Z05], by simp [Value.oneCell']⟩
  ·rename_i ht
   obtain ⟨s, rfl, _, hs⟩ := DataW.trod_string ht h
   exact ⟨[.lit (.string s)], .lit (by simp [leaf, hs]) .nil, by unfold Z7B; rw [ht]; exact ⟨s, rfl, hs⟩, by simp [fzV, okV, Z05], by simp [Value.oneCell']⟩
  ·rename_i e ht
   simp only [Bool.and_eq_true, decide_eq_true_eq] at hp
   obtain ⟨hpe, hpos⟩ := hp
   have mk : ∀ (v : Value) (es : List V), Zv (bare (ZpI w)) w [.sl false (P.cellsOf e) es] [v] -> v.oneCell' = true -> es.length <= maxLen -> (∀ y ∈ es, fzV y = true) ->
     (∀ y ∈ es, (if Z7O P e then ∃ ds, y = .agg ds else y.cells = [y]) /\ Z7B P d e y.cells) -> ∃ xs, Read P w (d + 1) t [v] xs := by
    intro v es h1 h2 h3 h4 h5
    refine ⟨_, h1, ?_, ?_, by simpa using h2⟩
    ·unfold Z7B; rw [ht]; exact ⟨es, rfl, h3, h5⟩
    ·intro y hy
     simp only [List.mem_singleton] at hy
     subst hy
     simp only [fzV, okV, Z05, Bool.true_and]
     rw [Z2d]
     exact fun z hz => Z8r (h4 z hz)
   rcases DataW.trod_slice ht h with ⟨rfl, _⟩ | ⟨a, len, cap, elems, rest, m, rfl, rfl, _, hb, hlc, hcm, hel, helem, hrest, _⟩
   ·exact mk _ [] (.Z4u .nil) rfl (by simp) (by simp) (by simp)
   ·obtain ⟨hrl, hrest⟩ := hrest rfl
    by_cases hc0 : cap = 0
    ·subst hc0
     have : len = 0 := by omega
     subst this
     exact mk _ [] (.Z62 a .nil) rfl (by simp) (by simp) (by simp)
    ·
     have hspot : a.spot = none := by
      have hfirst : ∃ c0, w.cells? base (a.add 0) (P.cellsOf e) = some c0 := by
       by_cases hl0 : 0 < len
       ·have := helem 0 hl0
        rw [Nat.zero_mul] at this
        have hlt : 0 < elems.length := by omega
        rw [List.getElem?_eq_getElem hlt] at this
        cases hq : w.cells? base (a.add 0) (P.cellsOf e) with
        | none => simp [hq] at this
        | some c0 => exact ⟨c0, rfl⟩
       ·have hl0 : len = 0 := by omega
        subst hl0
        have := hrest 0 (by omega)
        simp only [Nat.zero_add, Nat.zero_mul] at this
        have hlt : 0 < rest.length := by omega
        rw [List.getElem?_eq_getElem hlt] at this
        cases hq : w.cells? base (a.add 0) (P.cellsOf e) with
        | none => simp [hq] at this
        | some c0 => exact ⟨c0, rfl⟩
      obtain ⟨c0, hc0'⟩ := hfirst
      obtain ⟨_, e2, e3⟩ := World.cells?_some hc0'
      have := e3 0 hpos
      have hlt : 0 < c0.length := by omega
      rw [List.getElem?_eq_getElem hlt] at this
      simp only [Addr.add, if_true] at this
      unfold World.cell? at this
      split at this
      ·cases hs : a.spot with
       | none => rfl
       | some s => simp [hs] at this
      ·cases this
     obtain ⟨ab, ao, as⟩ := a
     simp only at hspot
     subst hspot
     have each : ∀ i, i < len -> ∃ ci xi, w.cells? base (Addr.add ⟨ab, ao, none⟩ (i * P.cellsOf e)) (P.cellsOf e) = some ci /\ Read P w d e ci xi := by
      intro i hi
      have := helem i hi
      have hlt : i < elems.length := by omega
      rw [List.getElem?_eq_getElem hlt] at this
      cases hq : w.cells? base (Addr.add ⟨ab, ao, none⟩ (i * P.cellsOf e)) (P.cellsOf e) with
      | none => simp [hq] at this
      | some ci =>
       simp only [hq, Option.bind_some] at this
       obtain ⟨xi, hxi⟩ := ih e m ci _ hpe this
       exact ⟨ci, xi, rfl, hxi⟩
     have list : ∀ k, k <= len -> ∃ (es : List V) (us : List Value), es.length = k /\ Zv (bare (ZpI w)) w es us /\ (∀ y ∈ es, fzV y = true) /\ (∀ u ∈ us, u.cells.size = P.cellsOf e) /\ (∀ u ∈ flat us, u.oneCell' = true) /\
       (∀ y ∈ es, (if Z7O P e then ∃ ds, y = .agg ds else y.cells = [y]) /\ Z7B P d e y.cells) /\ (∀ j u, (flat us)[j]? = some u -> w.cell? ⟨ab, ao + j, none⟩ = some u) := by
      intro k
      induction k with
      | zero => intro _; exact ⟨[], [], rfl, .nil, by simp, by simp, by simp [flat], by simp, by simp [flat]⟩
      | succ k ihk =>
       intro hk
       obtain ⟨es, us, l1, l2, l3, l4, l5, l6, l7⟩ := ihk (by omega)
       obtain ⟨ci, xi, hci, hr⟩ := each k (by omega)
       obtain ⟨a1, a2, a3, a4, a5⟩ := hr.arg
       obtain ⟨_, c2, c3⟩ := World.cells?_some hci
       have hsz : (ZAv P e ci).cells.size = P.cellsOf e := by
        have := congrArg List.length a3
        simpa [c2] using this
       refine ⟨es ++ [Zvh P e xi], us ++ [ZAv P e ci], by simp [l1], l2.append a1, ?_, ?_, ?_, ?_, ?_⟩
       ·intro y hy
        rcases List.mem_append.1 hy with hy | hy
        ·exact l3 y hy
        ·rw [List.mem_singleton.1 hy]; exact a2
       ·intro u hu
        rcases List.mem_append.1 hu with hu | hu
        ·exact l4 u hu
        ·rw [List.mem_singleton.1 hu]; exact hsz
       ·intro u hu
        rw [Z3L] at hu
        rcases List.mem_append.1 hu with hu | hu
        ·exact l5 u hu
        ·rw [Z1X, a3] at hu
         exact hr.one u hu
       ·intro y hy
        rcases List.mem_append.1 hy with hy | hy
        ·exact l6 y hy
        ·rw [List.mem_singleton.1 hy]; exact ⟨a5, by rw [a4]; exact hr.ty⟩
       ·intro j u hj
        rw [Z3L, Z1X, a3] at hj
        have hfl : (flat us).length = k * P.cellsOf e := by rw [flat_length l4, <- l2.length, l1]
        by_cases hlt : j < (flat us).length
        ·rw [List.getElem?_append_left hlt] at hj
         exact l7 j u hj
        ·rw [List.getElem?_append_right (by omega)] at hj
         have hjl : j - (flat us).length < P.cellsOf e := by
          have := (List.getElem?_eq_some_iff.1 hj).1
          omega
         have := c3 _ hjl
         rw [hj] at this
         rw [<- this]
         congr 1
         have hadd : Addr.add (Addr.add ⟨ab, ao, none⟩ (k * P.cellsOf e)) (j - (flat us).length) = ⟨ab, ao + j, none⟩ := by
          simp only [Addr.add]
          split <;> split <;> simp <;> omega
         rw [hadd]
     obtain ⟨es, us, l1, l2, l3, l4, l5, l6, l7⟩ := list len (Nat.le_refl _)
     subst l1
     refine mk _ es ?_ rfl (by omega) l3 l6
     exact .sl ab ao cap (P.cellsOf e) l2 l3 l4 l5 hlc hcm (fun j u hj => ⟨⟨u, l7 j u hj⟩, l7 j u hj⟩) .nil
  ·rename_i dd _ _ _ _ ht
   split at hp
   ·rename_i ss hss
    simp only [Bool.and_eq_true, List.all_eq_true] at hp
    obtain ⟨hall, hcov⟩ := hp
    have parts : cs.length = P.cellsOf t /\ ∀ s ∈ ss, ∃ xs, Read P w d s.2 ((cs.drop s.1).take (P.cellsOf s.2)) xs := by
     cases dd with
     | struct fs =>
      simp only [ZeQ, Option.some.injEq] at hss
      obtain ⟨xs, m, _, _, hlen, hxl, hf⟩ := DataW.trod_struct ht h
      refine ⟨hlen, fun s hs => ?_⟩
      have hs' := hs
      rw [<- hss] at hs
      obtain ⟨f, hfm, rfl⟩ := List.mem_map.1 hs
      obtain ⟨i, hi, hfi⟩ := List.getElem_of_mem hfm
      have hfi' : fs[i]? = some f := by simp at hi; rw [Array.getElem?_eq_getElem hi]; simp at hfi; rw [hfi]
      have := hf i f hfi'
      have hlt : i < xs.length := by simp at hi; omega
      rw [List.getElem?_eq_getElem hlt] at this
      exact ih f.type m _ _ (hall _ hs') this
     | array n' e =>
      simp only [ZeQ, Option.some.injEq] at hss
      obtain ⟨xs, m, _, _, hlen, hxl, hf⟩ := DataW.trod_array ht h
      refine ⟨hlen, fun s hs => ?_⟩
      have hs' := hs
      rw [<- hss] at hs
      obtain ⟨i, hi, rfl⟩ := List.mem_map.1 hs
      have hin : i < n' := by simpa using hi
      have := hf i hin
      have hlt : i < xs.length := by omega
      rw [List.getElem?_eq_getElem hlt] at this
      exact ih e m _ _ (hall _ hs') this
     | _ => simp [ZeQ] at hss
    obtain ⟨hlen, hparts⟩ := parts
    obtain ⟨xs, h1, h2, h3, h4⟩ := Zvp (by rw [hlen]; exact hcov) hparts
    rw [List.drop_zero] at h1 h3
    refine ⟨xs, h1, ?_, h2, h3⟩
    unfold Z7B
    rw [ht]
    simp only [Nat.sub_zero] at h4
    split <;> first | (rename_i hq; simp only [Option.some.injEq] at hq; subst hq; simp [ZeQ] at hss; done) | skip
    ·rename_i hq
     simp only [Option.some.injEq] at hq
     subst hq
     rw [hss]
     exact ⟨by rw [h1.length]; exact hlen, h4⟩
    ·rename_i hq; cases hq
   ·cases hp
  ·cases hp
inductive ZgL (P : Program) (d : Nat) : List TypeId -> List V -> Prop where
 | nil : ZgL P d [] []
 | cons {t ts xs as} : Z7B P d t xs -> ZgL P d ts as -> ZgL P d (t :: ts) (Zvh P t xs :: as)
theorem ZuV {r : Reach} {b0 : Nat} {d : Nat} {t : TypeId} {v : Value} {xs : List V} (hv : Value.okWide P w r b0 t v) (h : Read P w d t v.cells.toList xs) : ZAv P t v.cells.toList = v := by
 unfold ZAv
 cases hr : Z7O P t with
 | true =>
  simp only [if_true]
  unfold Z7O at hr
  split at hr
  ·rename_i dd hd
   unfold Value.okWide at hv
   rw [hd] at hv
   cases dd <;> simp [TypeDesc.isRow] at hr
   ·obtain ⟨cs, rfl, _⟩ := hv; simp [Value.cells]
   ·obtain ⟨cs, rfl, _⟩ := hv; simp [Value.cells]
  ·cases hr
 | false =>
  simp only [Bool.false_eq_true, if_false]
  obtain ⟨x, rfl, _⟩ := h.ty.single hr
  have hne : ∀ cs, v ≠ .agg cs := by
   rintro cs rfl
   unfold Z7O at hr
   unfold Value.okWide at hv
   split at hv
   ·rename_i hd; rw [hd] at hr; simp [TypeDesc.isRow] at hr
   ·rename_i hd; rw [hd] at hr; simp [TypeDesc.isRow] at hr
   ·unfold Cell.okWide at hv
    split at hv <;> simp_all [Cell.ok]
  cases v <;> first | rfl | exact absurd rfl (hne _)
theorem ZAF {d : Nat} : ∀ {ts : List TypeId} {vs : List Value} {ds : List (DataW H)} {ps : List MemPlace}, DataW.TrodAll enc P w base (fun _ => true) held ts vs ds ps -> (∀ t ∈ ts, Zfk P d t = true) ->
  (∀ (j : Nat) t v, ts[j]? = some t -> vs[j]? = some v -> ∃ r b0, Value.okWide P w r b0 t v) -> ∃ as, Zv (bare (ZpI w)) w as vs /\ ZgL P d ts as := by
 intro ts
 induction ts with
 | nil =>
  intro vs ds ps h _ _
  cases vs with
  | nil => exact ⟨[], .nil, .nil⟩
  | cons v vs => cases ds <;> exact h.elim
 | cons t ts ih =>
  intro vs ds ps h hp hv
  cases vs with
  | nil => exact h.elim
  | cons v vs =>
   cases ds with
   | nil => exact h.elim
   | cons d0 ds =>
    obtain ⟨p, q, ⟨fuel, h1⟩, h2, _⟩ := h
    obtain ⟨as, r1, r2⟩ := ih h2 (fun t' ht' => hp t' (by simp [ht'])) (fun j t' v' hj hj' => hv (j + 1) t' v' (by simpa using hj) (by simpa using hj'))
    obtain ⟨xs, hx⟩ := ZAE d t fuel _ _ (hp t (by simp)) h1
    obtain ⟨r, b0, hok⟩ := hv 0 t v rfl rfl
    have ha := hx.arg.1
    rw [ZuV hok hx] at ha
    exact ⟨_, Zv.Z0Q.2 ⟨ha, r1⟩, .cons hx.ty r2⟩
end
end Go.Proofs.YtefmbgacbhifdaaGreat.Le
namespace Go.Proofs.YtefmbgacbhifdaaGreat.Le
open Go.RowKit (Below)
open Go.ChangeShapes
structure Z0P (P : Program) {Ty : Nat -> Type} {T : Type} (c : Z8 Ty T) (t : TypeId) (wf : T -> Prop) : Prop where
 rd : ∀ (d : Nat) (xs : List V), Z7B P d t xs -> ∃ a, c.ZU a = xs /\ wf a
structure ZfQ (P : Program) {Ty : Nat -> Type} {T : Type} (c : Z8 Ty T) (ss : List (Nat × TypeId)) (off n : Nat) (wf : T -> Prop) : Prop where
 rd : ∀ (d : Nat) (xs : List V), xs.length = n -> (∀ s ∈ ss, Z7B P d s.2 ((xs.drop s.1).take (P.cellsOf s.2))) -> ∃ a, c.ZU a = xs.drop off /\ wf a
def WI (k : IntKind) (a : Int) : Prop := (Lit.int k a).wf = true
def WB (_ : Bool) : Prop := True
def WS (s : ByteArray) : Prop := s.size <= maxLen
def WL {α : Type} (p : α -> Prop) (xs : List α) : Prop := xs.length <= maxLen /\ ∀ x ∈ xs, p x
def WU (_ : Unit) : Prop := True
section
variable {P : Program} {Ty : Nat -> Type} {T : Type}
theorem Z0P.int {k : IntKind} {t : TypeId} (ht : P.underlying t = some (.int k)) : Z0P P (Z8.int k : Z8 Ty Int) t (WI k) := by
 refine ⟨fun d xs h => ?_⟩
 cases d with
 | zero => exact h.elim
 | succ d =>
  unfold Z7B at h
  rw [ht] at h
  obtain ⟨n, rfl, hw⟩ := h
  exact ⟨n, rfl, hw⟩
theorem Z0P.bool {t : TypeId} (ht : P.underlying t = some .bool) : Z0P P (Z8.bool : Z8 Ty Bool) t WB := by
 refine ⟨fun d xs h => ?_⟩
 cases d with
 | zero => exact h.elim
 | succ d =>
  unfold Z7B at h
  rw [ht] at h
  obtain ⟨n, rfl⟩ := h
  exact ⟨n, rfl, trivial⟩
theorem Z0P.str {t : TypeId} (ht : P.underlying t = some .string) : Z0P P (Z8.str : Z8 Ty ByteArray) t WS := by
 refine ⟨fun d xs h => ?_⟩
 cases d with
 | zero => exact h.elim
 | succ d =>
  unfold Z7B at h
  rw [ht] at h
  obtain ⟨n, rfl, hw⟩ := h
  exact ⟨n, rfl, hw⟩
theorem ZwK {α : Type} {p : α -> Prop} {e : α -> V} : ∀ {xs : List V}, (∀ x ∈ xs, ∃ a, e a = x /\ p a) -> ∃ as : List α, as.map e = xs /\ ∀ a ∈ as, p a := by
 intro xs
 induction xs with
 | nil => intro _; exact ⟨[], rfl, by simp⟩
 | cons x xs ih =>
  intro h
  obtain ⟨a, ha, hp⟩ := h x (by simp)
  obtain ⟨as, has, hps⟩ := ih (fun y hy => h y (by simp [hy]))
  refine ⟨a :: as, by simp [ha, has], fun b hb => ?_⟩
  rcases List.mem_cons.1 hb with rfl | hb
  ·exact hp
  ·exact hps b hb
theorem Z0P.rows {t e n : Nat} {c : Z8 Ty (Ty e)} {wf : Ty e -> Prop} (ht : P.underlying t = some (.slice e)) (hn : P.cellsOf e = n) (hr : Z7O P e = true) (hc : Z0P P c e wf) :
  Z0P P (Z8.list e n (fun a => .agg (c.ZU a)) : Z8 Ty (List (Ty e))) t (WL wf) := by
 refine ⟨fun d xs h => ?_⟩
 cases d with
 | zero => exact h.elim
 | succ d =>
  unfold Z7B at h
  rw [ht] at h
  obtain ⟨ys, rfl, hl, hy⟩ := h
  obtain ⟨as, has, hp⟩ := ZwK (p := wf) (e := fun a => V.agg (c.ZU a)) (xs := ys) (fun y hy' => by
   obtain ⟨h1, h2⟩ := hy y hy'
   rw [if_pos hr] at h1
   obtain ⟨ds, rfl⟩ := h1
   obtain ⟨a, ha, hw⟩ := hc.rd d _ h2
   exact ⟨a, by rw [ha]; rfl, hw⟩)
  subst hn
  exact ⟨as, by simp only [Z8.list, has], by rw [<- List.length_map (f := fun a => V.agg (c.ZU a)), has]; exact hl, hp⟩
theorem Z0P.ones {t e n : Nat} {c : Z8 Ty (Ty e)} {wf : Ty e -> Prop} (ht : P.underlying t = some (.slice e)) (hn : P.cellsOf e = n) (hr : Z7O P e = false) (hc : Z0P P c e wf) :
  Z0P P (Z8.list e n (fun a => c.ZF a) : Z8 Ty (List (Ty e))) t (WL wf) := by
 refine ⟨fun d xs h => ?_⟩
 cases d with
 | zero => exact h.elim
 | succ d =>
  unfold Z7B at h
  rw [ht] at h
  obtain ⟨ys, rfl, hl, hy⟩ := h
  obtain ⟨as, has, hp⟩ := ZwK (p := wf) (e := fun a => c.ZF a) (xs := ys) (fun y hy' => by
   obtain ⟨h1, h2⟩ := hy y hy'
   rw [if_neg (by simp [hr])] at h1
   obtain ⟨a, ha, hw⟩ := hc.rd d _ h2
   exact ⟨a, by simp only [Z8.ZF, ha, h1]; rfl, hw⟩)
  subst hn
  exact ⟨as, by simp only [Z8.list, has], by rw [<- List.length_map (f := fun a => c.ZF a), has]; exact hl, hp⟩
theorem ZfQ.unit {off n : Nat} (h : off = n) : ZfQ P (Z8.unit : Z8 Ty Unit) [] off n WU := by
 refine ⟨fun d xs hl _ => ⟨(), ?_, trivial⟩⟩
 subst h
 rw [<- hl, List.drop_length]
 rfl
theorem ZfQ.pair {A B : Type} {a : Z8 Ty A} {b : Z8 Ty B} {t off n k : Nat} {ss : List (Nat × TypeId)} {wa : A -> Prop} {wb : B -> Prop} (ha : Z0P P a t wa) (hk : P.cellsOf t = k) (hb : ZfQ P b ss (off + k) n wb) :
  ZfQ P (Z8.pair a b) ((off, t) :: ss) off n (fun x => wa x.1 /\ wb x.2) := by
 refine ⟨fun d xs hl h => ?_⟩
 obtain ⟨x, hx, hwx⟩ := ha.rd d _ (h (off, t) (by simp))
 obtain ⟨y, hy, hwy⟩ := hb.rd d xs hl (fun s hs => h s (by simp [hs]))
 refine ⟨(x, y), ?_, hwx, hwy⟩
 simp only [Z8.pair, hx, hy]
 rw [hk, <- List.drop_drop, List.take_append_drop]
theorem Z0P.row {c : Z8 Ty T} {t n : Nat} {dd : TypeDesc} {ss : List (Nat × TypeId)} {wf : T -> Prop} (ht : P.underlying t = some dd) (hss : ZeQ P dd = some ss) (hn : P.cellsOf t = n) (h : ZfQ P c ss 0 n wf) : Z0P P c t wf := by
 refine ⟨fun d xs hx => ?_⟩
 cases d with
 | zero => exact hx.elim
 | succ d =>
  unfold Z7B at hx
  rw [ht] at hx
  have key : xs.length = P.cellsOf t /\ ∀ s ∈ ss, Z7B P d s.2 ((xs.drop s.1).take (P.cellsOf s.2)) := by
   cases dd with
   | struct fs => simp only at hx; rw [hss] at hx; exact hx
   | array m e => simp only at hx; rw [hss] at hx; exact hx
   | _ => simp [ZeQ] at hss
  obtain ⟨a, ha, hw⟩ := h.rd d xs (key.1.trans hn) key.2
  exact ⟨a, by simpa using ha, hw⟩
theorem Z0P.iso {A B : Type} {f : A -> B} {g : B -> A} {b : Z8 Ty B} {t : TypeId} {wf : B -> Prop} (hb : Z0P P b t wf) (hfg : ∀ y, f (g y) = y) : Z0P P (Z8.iso f g b) t (fun x => wf (f x)) := by
 refine ⟨fun d xs h => ?_⟩
 obtain ⟨y, hy, hw⟩ := hb.rd d xs h
 exact ⟨g y, by simp only [Z8.iso, hfg]; exact hy, by rw [hfg]; exact hw⟩
end
structure Zzb (P : Program) (U : Z9c) (t : TypeId) (wf : U.Ty t -> Prop) : Prop where
 rd : ∀ d xs, Z7B P d t xs -> ∃ a, U.enc t a = Zvh P t xs /\ wf a
theorem Zzb.rows {P : Program} {U : Z9c} {t : TypeId} {c : Z8 U.Ty (U.Ty t)} {wf : U.Ty t -> Prop} (hr : Z7O P t = true) (hc : Z0P P c t wf) (he : ∀ a, U.enc t a = .agg (c.ZU a)) : Zzb P U t wf := by
 refine ⟨fun d xs h => ?_⟩
 obtain ⟨a, ha, hw⟩ := hc.rd d xs h
 exact ⟨a, by rw [he, ha]; simp [Zvh, hr], hw⟩
theorem Zzb.ones {P : Program} {U : Z9c} {t : TypeId} {c : Z8 U.Ty (U.Ty t)} {wf : U.Ty t -> Prop} (hr : Z7O P t = false) (hc : Z0P P c t wf) (he : ∀ a, U.enc t a = c.ZF a) : Zzb P U t wf := by
 refine ⟨fun d xs h => ?_⟩
 obtain ⟨a, ha, hw⟩ := hc.rd d xs h
 exact ⟨a, by rw [he]; simp [Zvh, hr, Z8.ZF, ha], hw⟩
inductive Zn2 (P : Program) (U : Z9c) : (ts : List Nat) -> (ZjY U ts -> Prop) -> Prop where
 | nil : Zn2 P U [] (fun _ => True)
 | cons {t ts wf W} : Zzb P U t wf -> Zn2 P U ts W -> Zn2 P U (t :: ts) (fun x => wf x.1 /\ W x.2)
theorem Zyz {P : Program} {U : Z9c} {ts : List Nat} {W : ZjY U ts -> Prop} (h : Zn2 P U ts W) : ∀ {d : Nat} {as : List V}, ZgL P d ts as -> ∃ x : ZjY U ts, Z23 ts x = as /\ W x := by
 induction h with
 | nil => intro d as ha; cases ha; exact ⟨(), rfl, trivial⟩
 | cons ht _ ih =>
  intro d as ha
  cases ha with
  | cons h1 h2 =>
   obtain ⟨a, ha, hw⟩ := ht.rd _ _ h1
   obtain ⟨x, hx, hW⟩ := ih h2
   exact ⟨(a, x), by simp [Z23, ha, hx], hw, hW⟩
section
variable {H : Type} {enc : TypeId × Value -> H} {P : Program}
theorem Zh9 {W W' : World} {sp : Nat -> Bool} (hl : laidOutB P = true) : ∀ {ts : List TypeId} {vs : List Value} {ds : List (DataW H)} {ps : List MemPlace}, (∀ t ∈ ts, P.readableRec t = true /\ t < P.types.size) ->
  DataW.TrodAll enc P W 0 (fun _ => true) true ts vs ds ps -> Below W.heap.size W W' -> (∀ p ∈ ps, p.block < W.heap.size) -> (∀ p ∈ ps, sp p.block = true) -> DataW.TrodAll enc P W' 0 sp true ts vs ds ps
 | [], [], [], _, _, h, _, _, _ => h
 | t :: ts, v :: vs, d :: ds, _, ht, ⟨p, q, h1, h2, e⟩, hb, hlt, hsp =>
  ⟨p, q, WideElems.Trod_stays hl (ht t (by simp)).1 (ht t (by simp)).2 h1 (fun x hx => hb.same (hlt x (by rw [e]; exact List.mem_append_left _ hx))) (fun x hx => hsp x (by rw [e]; exact List.mem_append_left _ hx)),
   Zh9 hl (fun t ht' => ht t (by simp [ht'])) h2 hb (fun x hx => hlt x (by rw [e]; exact List.mem_append_right _ hx)) (fun x hx => hsp x (by rw [e]; exact List.mem_append_right _ hx)), e⟩
theorem ZyY {f : Func} {s : ChangeSpec} {apart fresh handsOn again : Bool} {W W' : World} {args : Array Value} {ds gs : List (DataW H)} {before : List MemPlace} {tb : TypeId} (hl : laidOutB P = true) (hts : ∀ t ∈ f.params.toList, P.readableRec t = true /\ t < P.types.size)
  (hW : DataW.Whole enc P f.params.toList s.vars apart W args.toList ds gs before) (hb : Below W.heap.size W W') (hr : f.resultTypes = #[tb]) (htb : P.underlying tb = some .bool)
  (h1 : (s.fn H (ds ++ gs)).results = [.lit (.bool true)]) (h2 : (s.fn H (ds ++ gs)).args = ds) (h3 : (s.fn H (ds ++ gs)).vars = gs)
  (hvars : ∀ (pv : List MemPlace), DataW.TrodVars enc P W (fun _ => true) s.vars gs pv -> (∀ p ∈ pv, p.block < W.heap.size) -> ∀ sp : Nat -> Bool, (∀ p ∈ pv, sp p.block = true) -> DataW.TrodVars enc P W' sp s.vars gs pv) :
  s.post enc P f apart fresh handsOn again W args (.bool true) W' := by
 have hlt := hW.lt
 have hW0 := hW
 obtain ⟨pa, pv, hA, hV, hps, hz, hn⟩ := hW
 have hold : ∀ p ∈ before, (fun b => decide (b < W.heap.size)) p.block = true := fun p hp => by simpa using hlt p hp
 have hpa : ∀ p ∈ pa, p ∈ before := fun p hp => by rw [hps]; exact List.mem_append_left _ hp
 have hpv : ∀ p ∈ pv, p ∈ before := fun p hp => by rw [hps]; exact List.mem_append_right _ hp
 have hargs : ∀ sp : Nat -> Bool, (∀ p ∈ before, sp p.block = true) -> DataW.TrodAll enc P W' 0 sp true f.params.toList args.toList (s.fn H (ds ++ gs)).args pa := fun sp hsp => by
  rw [h2]; exact Zh9 hl hts hA hb (fun p hp => hlt p (hpa p hp)) (fun p hp => hsp p (hpa p hp))
 have hvs : ∀ sp : Nat -> Bool, (∀ p ∈ before, sp p.block = true) -> DataW.TrodVars enc P W' sp s.vars (s.fn H (ds ++ gs)).vars pv := fun sp hsp => by
  rw [h3]; exact hvars pv hV (fun p hp => hlt p (hpv p hp)) sp (fun p hp => hsp p (hpv p hp))
 have hres : ∀ (b : Nat) (sp : Nat -> Bool) (hd : Bool), DataW.TrodAll enc P W' b sp hd f.resultTypes.toList ((Value.bool true).resultList f.resultTypes.size) (s.fn H (ds ++ gs)).results [] := fun b sp hd => by
  rw [h1, hr]; exact trodAll_cons_mk (p := []) (p' := []) (RowKit.shut_bool htb _) trodAll_mk0
 refine ⟨ds, gs, before, [], pa, pv, hW0, hres _ _ _, hargs _ hold, hvs _ hold, World.keptBut_mono (fun p hp => ⟨hp, ?_⟩) (hb.frame (· ∈ before)), fun _ => ?_⟩
 ·rw [hps, List.mem_append] at hp
  exact Or.inr hp
 ·refine ⟨RowKit.ok_one hr rfl (RowKit.okWide_bool_mk htb _), _, _, ([] ++ pa) ++ pv, ⟨[] ++ pa, pv, trodAll_append (hargs _ (fun _ _ => rfl)) (hres _ _ _), hvs _ (fun _ _ => rfl), rfl, ?_, ?_⟩, ?_⟩
  ·intro b off hp
   have hm : MemPlace.cell b off ∈ before := by rw [hps]; simpa using hp
   rw [hb.frozen (p := ⟨b, off, none⟩) (hlt _ hm)]
   exact hz b off hm
  ·intro ha
   have := hn ha
   rw [hps] at this
   simpa using this
  ·intro p hp _
   rw [hps]
   simpa using hp
theorem ZBB {U : Z9c} {E0 : Env} {f : FuncId} {fn : Func} {m : Mod U} {s : ChangeSpec} {apart fresh handsOn again : Bool} {tb : TypeId} (hok : Z1p P E0 f m) {Wf : ZjY U m.ts -> Prop} (hrd : Zn2 P U m.ts Wf) (hpar : fn.params.toList = m.ts) {d : Nat} (hpl : ∀ t ∈ m.ts, Zfk P d t = true)
  (hl : laidOutB P = true) (hts : ∀ t ∈ m.ts, P.readableRec t = true /\ t < P.types.size) (hr : fn.resultTypes = #[tb]) (htb : P.underlying tb = some .bool) {tt : U.Ty m.rt} (htt : U.enc m.rt tt = .lit (.bool true)) (htrue : ∀ x, Wf x -> m.fn x = some tt)
  (hspec : ∀ (ds gs : List (DataW H)), ds.length = m.ts.length -> gs.length = s.vars.length -> (s.fn H (ds ++ gs)).results = [.lit (.bool true)] /\ (s.fn H (ds ++ gs)).args = ds /\ (s.fn H (ds ++ gs)).vars = gs)
  {W : World} {args : Array Value} {ds gs : List (DataW H)} {before : List MemPlace} (hval : ∀ (j : Nat) t v, fn.params[j]? = some t -> args[j]? = some v -> ∃ r b0, Value.okWide P W r b0 t v)
  (hW : DataW.Whole enc P fn.params.toList s.vars apart W args.toList ds gs before) (hg : Z0C E0 (bare (ZpI W)) W)
  (hvars : ∀ (W' : World), Below W.heap.size W W' -> ∀ (pv : List MemPlace), DataW.TrodVars enc P W (fun _ => true) s.vars gs pv -> (∀ p ∈ pv, p.block < W.heap.size) -> ∀ sp : Nat -> Bool, (∀ p ∈ pv, sp p.block = true) -> DataW.TrodVars enc P W' sp s.vars gs pv)
  (hdl : ds.length = m.ts.length) (hgl : gs.length = s.vars.length) :
  Calls P f args W fun e W' => ∃ v, e = .returned v /\ s.post enc P fn apart fresh handsOn again W args v W' := by
 have hW0 := hW
 obtain ⟨pa, pv, hA, hV, hps, hz, hn⟩ := hW
 rw [hpar] at hA
 obtain ⟨as, hreps, hread⟩ := ZAF hA hpl (fun j t v hj hv => hval j t v (by rw [<- Array.getElem?_toList, hpar]; exact hj) (by rw [<- Array.getElem?_toList]; exact hv))
 obtain ⟨x, hx, hwf⟩ := Zyz hrd hread
 have hcall := hok.pure x tt (htrue x hwf) (ZpI W) W args.toList (fun b c hh => hh) hg (by rw [hx]; exact hreps)
 refine hcall.mono ?_
 rintro e W' ⟨u, fz', rfl, hb, _, _, _, hru, _⟩
 rw [htt] at hru
 cases hru with
 | lit _ _ =>
  obtain ⟨s1, s2, s3⟩ := hspec ds gs hdl hgl
  exact ⟨_, rfl, ZyY hl (by rw [hpar]; exact hts) hW0 hb hr htb s1 s2 s3 (hvars W' hb)⟩
end
end Go.Proofs.YtefmbgacbhifdaaGreat.Le
namespace Go.Proofs.YtefmbgacbhifdaaGreat.Le
def ZCv (n by' : Nat) : List V -> Option V
 | [.sl false e xs] => if e = n /\ xs.length * by' <= lim /\ xs.length <= maxLen then some (.sl false e xs) else none
 | _ => none
def envCl (cl : List (Nat × Nat × Nat × Nat)) : FuncId -> Option (List V -> Option V) := fun g => (cl.find? fun p => p.1 == g).map fun p => ZCv p.2.1 p.2.2.1
def ownCl (cl : List (Nat × Nat × Nat × Nat)) : FuncId -> Option TypeId := fun g => (cl.find? fun p => p.1 == g).map fun p => p.2.2.2
structure Z9S (P : Program) (f n by' e : Nat) : Prop where
 entered : Z9U P f
 pure : ∀ (E : Env) (xs : List V), xs.length * by' <= lim -> xs.length <= maxLen -> Zhd P E f [.sl false n xs] (.sl false n xs)
 own : ∀ (E : Env) (xs : List V), xs.length * by' <= lim -> xs.length <= maxLen -> Zp1 P E f [.sl false n xs] e n xs
noncomputable def EC (P : Program) (gl : Nat -> Option (List V)) (fs : List FuncId) (pu : FuncId -> Bool) (bad : List (Nat × Nat) := []) (cl : List (Nat × Nat × Nat × Nat) := []) : Env :=
 { Z6R P pu (envCl cl) with
  func := fun g => if fs.contains g then P.funcs[g]? else none
  Zcy := gl
  own := ownCl cl
  calm := fun f id => !(bad.any fun p => p.1 == f && p.2 == id) }
noncomputable def Zw4 (P : Program) (gl : Nat -> Option (List V)) (fs : List FuncId) (pu : FuncId -> Bool) (bad : List (Nat × Nat) := []) (cl : List (Nat × Nat × Nat × Nat) := []) : Bool :=
 fs.all fun g => match P.funcs[g]? with
  | some fn => !(fn.name == "runtime.NumGoroutine") && (match fn.body with | some c => Z5L (EC P gl fs pu bad cl) g c | none => true)
  | none => true
theorem EC_ok {P : Program} {gl : Nat -> Option (List V)} {fs : List FuncId} {pu : FuncId -> Bool} {bad : List (Nat × Nat)} {cl : List (Nat × Nat × Nat × Nat)} (hmix : P.follows .mixedOrders = true) (hck : Zw4 P gl fs pu bad cl = true) : Z15 (EC P gl fs pu bad cl) := by
 have hck := List.all_eq_true.1 hck
 refine ⟨fun t i h => h, ?_, hmix, ?_, ?_, ?_, ?_, fun t ks h => h, ?_⟩
 ·intro g fn h
  simp only [EC] at h
  split at h
  ·rename_i hg
   have := hck g (by simpa using hg)
   rw [h] at this
   simp only [Bool.and_eq_true, Bool.not_eq_true'] at this
   exact ⟨h, this.1⟩
  ·cases h
 ·intro g fn c h hb
  simp only [EC] at h
  split at h
  ·rename_i hg
   have := hck g (by simpa using hg)
   rw [h] at this
   simp only [hb, Bool.and_eq_true] at this
   exact this.2
  ·cases h
 ·intro t k h
  simp only [EC, Z6R] at h
  split at h
  ·rename_i d hd
   simp only [Option.some.injEq] at h
   subst h
   exact hd
  ·cases h
 ·intro t h
  simp only [EC, Z6R] at h
  split at h
  ·rename_i hd; exact hd
  ·cases h
 ·intro t h
  simp only [EC, Z6R] at h
  split at h
  ·rename_i hd; exact hd
  ·cases h
 ·intro t h
  simp only [EC, Z6R] at h
  split at h
  ·rename_i e he
   split at h
   ·rename_i hd; exact ⟨e, he, hd⟩
   ·cases h
  ·cases h
theorem ZkC {H : Type} {enc : TypeId × Value -> H} {P : Program} {w : World} {base : Nat} {spare : Nat -> Bool} {held : Bool} : ∀ {ts : List TypeId} {vs : List Value} {ds : List (DataW H)} {ps : List MemPlace}, DataW.TrodAll enc P w base spare held ts vs ds ps -> ds.length = ts.length
 | [], [], [], _, _ => rfl
 | _ :: _, _ :: _, _ :: _, _, ⟨_, _, _, h, _⟩ => congrArg (· + 1) (ZkC h)
end Go.Proofs.YtefmbgacbhifdaaGreat.Le
