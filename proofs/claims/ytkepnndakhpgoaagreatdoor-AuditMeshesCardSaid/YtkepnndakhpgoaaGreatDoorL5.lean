/-
  Runs of code over values, step by step; boxes put in order on the way. Runs are sound.
-/
import Derived.Test.YtkepnndakhpgoaaGreatDoorL4
import Derived.OpenShut
import Derived.Carry
import Derived.ProofKit
namespace Go.Proofs.YtkepnndakhpgoaaGreatDoor.Le
set_option linter.unusedVariables false
open Go.RowKit (Below)

/-! ### boxes in another order -/

structure TidyR (k : Nat) (ids : List Nat) (st st' : St) : Prop where
  nodup : ids.Nodup
  pre : ids.take k = List.range k
  len : st'.H.length = ids.length
  heap : ∀ (j id : Nat), ids[j]? = some id → ∃ b b', st.H[id]? = some b ∧ b.live = true ∧ st'.H[j]? = some b' ∧ b'.live = true ∧ b'.row = b.row ∧ (b'.nilp = true → b.nilp = true) ∧ b'.elem = b.elem ∧ b'.esz = b.esz ∧
    (b.floor ≤ b'.floor ∨ b'.floor = b'.xs.length) ∧ b'.floor ≤ b'.xs.length ∧ (b.row = true → b'.xs = b.xs) ∧ (b.row = false → b'.xs = renFs (ids.idxOf ·) b.xs ∧ ∀ r ∈ refsFs b.xs, r ∈ ids)
  slen : st'.s.length = st.s.length
  slots : ∀ (i : Nat) (v' : V), st'.s[i]? = some v' → v' = .und ∨ ∃ v, st.s[i]? = some v ∧ v' = renF (ids.idxOf ·) v ∧ ∀ r ∈ refsF v, r ∈ ids

theorem reps_slots {σ : Sg} {w : World} : ∀ {xs : List V} {vs : List Value}, xs.length = vs.length → (∀ (i : Nat) (x : V) (v : Value), xs[i]? = some x → vs[i]? = some v → Reps σ w [x] [v]) → Reps σ w xs vs := by
  intro xs
  induction xs with
  | nil => intro vs hl _; cases vs with | nil => exact .nil | cons => simp at hl
  | cons x xs ih =>
    intro vs hl h
    cases vs with
    | nil => simp at hl
    | cons v vs => exact Reps.cons_iff.2 ⟨h 0 x v rfl rfl, ih (by simpa using hl) (fun i y u h1 h2 => h (i + 1) y u (by simpa using h1) (by simpa using h2))⟩

theorem tidy_ok {E : Env} {B : Nat} {w0 : Start} {σ : Sg} {st st' : St} {a : Act} {w : World} {k : Nat} {ids : List Nat} (ht : TidyR k ids st st') (h : Rel E B w0 σ st a w) : Rel E B w0 (σ.ren ids) st' a w := by
  have hbox : ∀ {j : Nat} {L : Loc}, (σ.ren ids).box j = some L → ∃ id, ids[j]? = some id ∧ σ.box id = some L := by
    intro j L hL
    simp only [Sg.ren] at hL
    cases hj : ids[j]? with
    | none => simp [hj] at hL
    | some id => simp only [hj, Option.bind_some] at hL; exact ⟨id, rfl, hL⟩
  have hsome : ∀ {j : Nat} {b' : Box}, st'.H[j]? = some b' → ∃ id, ids[j]? = some id := by
    intro j b' hb
    have hlt := (List.getElem?_eq_some_iff.1 hb).1
    rw [ht.len] at hlt
    exact ⟨ids[j], List.getElem?_eq_getElem hlt⟩
  refine ⟨⟨h.inv.below, h.inv.size, ?_, ?_, ?_, h.inv.cells, ?_, ?_, h.inv.old, fun b hb => ?_⟩, h.glob.bare (fun b c hh => ⟨hh, rfl⟩), ?_, h.calm⟩
  · intro j L hL
    obtain ⟨id, h1, h2⟩ := hbox hL
    obtain ⟨b, b', _, _, q1, q2, _⟩ := ht.heap j id h1
    exact ⟨b', q1, q2⟩
  · intro j b' hb hl
    obtain ⟨id, hid⟩ := hsome hb
    obtain ⟨b, b2, p1, p2, p3, p4, p5, p6, p7, p8, p9, p10, p11, p12⟩ := ht.heap j id hid
    rw [hb] at p3
    cases p3
    obtain ⟨L, hL, hok⟩ := h.inv.boxes id b p1 p2
    obtain ⟨us, r1, r2, r3, r4⟩ := hok.reps
    refine ⟨L, by simp [Sg.ren, hid, hL], ?_⟩
    have hlen : b'.xs.length = b.xs.length := by
      cases hr : b.row with
      | true => rw [p11 hr]
      | false => rw [(p12 hr).1, renFs_length]
    have hreps : Reps (σ.ren ids) w b'.xs us := by
      cases hr : b.row with
      | true => rw [p11 hr]; exact r1.bare (fun b c hh => ⟨hh, rfl⟩) ((noRefs_iff _).2 (hok.fzs hr))
      | false => rw [(p12 hr).1]; exact sub_reps r1 (p12 hr).2
    refine ⟨by rw [hlen]; exact hok.tot, ⟨us, hreps, r2, r3, by rw [p7, hlen]; exact r4⟩, fun hn => hok.nilp (p6 hn), by rw [p8]; exact hok.esz, ?_, ?_⟩
    · intro x hx
      cases hr : b.row with
      | true => rw [p11 hr] at hx; exact hok.oks x hx
      | false =>
        rw [(p12 hr).1, renFs_map] at hx
        obtain ⟨y, hy, rfl⟩ := List.mem_map.1 hx
        rw [renF_ok]
        exact hok.oks y hy
    · intro hr x hx
      rw [p5] at hr
      rw [p11 hr] at hx
      exact hok.fzs hr x hx
  · intro j j' b1 b2 L1 L2 g h1 h2 l1 l2 s1 s2 g1 g2
    obtain ⟨i1, e1, t1⟩ := hbox s1
    obtain ⟨i2, e2, t2⟩ := hbox s2
    obtain ⟨c1, _, p1, p2, _⟩ := ht.heap j i1 e1
    obtain ⟨c2, _, q1, q2, _⟩ := ht.heap j' i2 e2
    have := h.inv.apart i1 i2 c1 c2 L1 L2 g p1 q1 p2 q2 t1 t2 g1 g2
    subst this
    exact nodup_get ht.nodup e1 e2
  · intro b c hc j b' L hb hl hL hg
    obtain ⟨id, hid, hL'⟩ := hbox hL
    obtain ⟨b0, b2, p1, p2, p3, p4, p5, p6, p7, p8, p9, p10, p11, p12⟩ := ht.heap j id hid
    rw [hb] at p3
    cases p3
    have := h.inv.floor b c hc id b0 L p1 p2 hL' hg
    have hlen : b'.xs.length = b0.xs.length := by
      cases hr : b0.row with
      | true => rw [p11 hr]
      | false => rw [(p12 hr).1, renFs_length]
    have hle : b0.floor ≤ b'.floor := by
      rcases p9 with p9 | p9
      · exact p9
      · rw [p9, hlen]; exact h.inv.low id b0 p1 p2
    exact Nat.lt_of_lt_of_le this (Nat.mul_le_mul_right _ hle)
  · intro j b' hb hl
    obtain ⟨id, hid⟩ := hsome hb
    obtain ⟨b0, b2, p1, p2, p3, p4, p5, p6, p7, p8, p9, p10, p11, p12⟩ := ht.heap j id hid
    rw [hb] at p3
    cases p3
    exact p10
  · obtain ⟨k1, k2, k3, k4⟩ := h.inv.kept b hb
    refine ⟨k1, k2, fun j L hL hg => ?_, k4⟩
    obtain ⟨id, hid, hL'⟩ := hbox hL
    exact k3 id L hL' hg
  · refine reps_slots (by rw [ht.slen]; exact h.slots.length) (fun i x v hx hv => ?_)
    rcases ht.slots i x hx with rfl | ⟨y, hy, rfl, hc⟩
    · exact .und _ .nil
    · obtain ⟨u, hu, hr⟩ := h.slots.get hy
      rw [hv] at hu
      cases hu
      exact sub_reps hr (by simpa [refsFs] using hc)

/-! ### boxes and slots made ready, in another order -/

/-- Slots laid anew: those that are kept, the others not known. -/
def spread {α : Type} (u : α) (n : Nat) : List Nat → List α → List α
  | k :: ks, v :: vs => (spread u n ks vs).set k v
  | _, _ => List.replicate n u

theorem spread_length {α : Type} (u : α) (n : Nat) : ∀ (ks : List Nat) (vs : List α), (spread u n ks vs).length = n := by
  intro ks
  induction ks with
  | nil => intro vs; simp [spread]
  | cons k ks ih => intro vs; cases vs <;> simp [spread, ih]

theorem spread_get {α : Type} (u : α) (n : Nat) : ∀ (ks : List Nat) (vs : List α) (i : Nat) (x : α), (spread u n ks vs)[i]? = some x → x = u ∨ ∃ j : Nat, ks[j]? = some i ∧ vs[j]? = some x := by
  intro ks
  induction ks with
  | nil =>
    intro vs i x h
    simp only [spread, List.getElem?_replicate] at h
    split at h
    · exact .inl (Option.some.inj h).symm
    · cases h
  | cons k ks ih =>
    intro vs i x h
    cases vs with
    | nil =>
      simp only [spread, List.getElem?_replicate] at h
      split at h
      · exact .inl (Option.some.inj h).symm
      · cases h
    | cons v vs =>
      simp only [spread, List.getElem?_set] at h
      split at h
      · rename_i hk
        subst hk
        split at h
        · exact .inr ⟨0, rfl, h⟩
        · cases h
      · rcases ih vs i x h with h | ⟨j, h1, h2⟩
        · exact .inl h
        · exact .inr ⟨j + 1, h1, h2⟩

theorem spread_map {α β : Type} (g : α → β) (u : α) (n : Nat) : ∀ (ks : List Nat) (vs : List α), (spread u n ks vs).map g = spread (g u) n ks (vs.map g) := by
  intro ks
  induction ks with
  | nil => intro vs; simp [spread]
  | cons k ks ih => intro vs; cases vs <;> simp [spread, List.map_set, ih]

theorem reps_keep {σ : Sg} {w : World} {xs : List V} {vs : List Value} (h : Reps σ w xs vs) : ∀ keep : List Nat, Reps σ w (keep.map fun i => xs.getD i .und) (keep.map fun i => vs.getD i undef) := by
  intro keep
  induction keep with
  | nil => exact .nil
  | cons i keep ih =>
    simp only [List.map_cons]
    refine Reps.cons_iff.2 ⟨?_, ih⟩
    cases hx : xs[i]? with
    | none => simp only [List.getD, hx, Option.getD_none]; exact .und _ .nil
    | some x =>
      obtain ⟨v, hv, hr⟩ := h.get hx
      simp only [List.getD, hx, hv, Option.getD_some]
      exact hr

theorem packd_ok {E : Env} {B : Nat} {w0 : Start} {σ : Sg} {st : St} {a : Act} {w : World} {k : Nat} {fa : List (List Fk)} {fb : List Bf} {keep ids : List Nat} {as : List V} {H2 : Heap} (hp : pack fa fb k (keep.map fun i => st.s.getD i .und) st.H = some (ids, as, H2))
    (h : Rel E B w0 σ st a w) : ∃ σ1, Ext σ w σ1 w ∧ Rel E B w0 (σ1.ren ids) ⟨spread .und st.s.length keep (renFs (ids.idxOf ·) as), subH H2 ids⟩ a w := by
  obtain ⟨hs, hm, _, σ1, hI1, hE1, hr1⟩ := pack_ok h.inv (reps_keep h.slots keep) hp
  have hsub := sub_ok hI1 hs w0 hI1.below hI1.old (fun b hb => by
    obtain ⟨k1, k2, k3, k4⟩ := hI1.kept b hb
    exact ⟨k1, k2, fun id _ L hL => k3 id L hL, k4⟩)
  refine ⟨σ1, hE1, hsub, (h.glob.ext hE1).bare (fun b c hh => ⟨hh, rfl⟩), ?_, h.calm⟩
  refine reps_slots (by rw [spread_length]; exact h.slots.length) (fun i x v hx hv => ?_)
  rcases spread_get _ _ _ _ i x hx with rfl | ⟨j, h1, h2⟩
  · exact .und _ .nil
  · obtain ⟨u, hu, hr⟩ := (sub_reps hr1 hm).get h2
    simp only [List.getElem?_map, h1, Option.map_some, List.getD, hv, Option.getD_some, Option.some.injEq] at hu
    subst hu
    exact hr

/-! ### runs -/

inductive Ctl where
  | run (c : Code) | nxt | exit (id : Nat) | ret
inductive Fr where
  | seq (c : Code) | blk (id : Nat) | loop (b : Code)

/-- The types of a call's results on its frozen value. -/
def retypeRL : List (List Nat) → List V → List V
  | es :: rs, v :: vs => retype es v :: retypeRL rs vs
  | [], vs => vs
  | _, [] => []
def retypeR (rs : List (List Nat)) : V → V
  | .tup vs => .tup (retypeRL rs vs)
  | v => retype (rs.headD []) v

inductive RunsV (call : CallF) (E : Env) (f : FuncId) (fn : Func) (k : Nat) (Z : St → V × Heap → Prop) : Ctl → List Fr → St → V × Heap → Prop where
  | skip {K st r} : RunsV call E f fn k Z .nxt K st r → RunsV call E f fn k Z (.run .skip) K st r
  | region {id ops K st st' r} : opsD call E ops (List.range ops.size) st = some st' → RunsV call E f fn k Z .nxt K st' r → RunsV call E f fn k Z (.run (.region id ops false)) K st r
  | draw {id ops K st st' r} : E.calm f id = true → drawD call E ops st = some st' → RunsV call E f fn k Z .nxt K st' r → RunsV call E f fn k Z (.run (.region id ops true)) K st r
  | seq {a b K st r} : RunsV call E f fn k Z (.run a) (.seq b :: K) st r → RunsV call E f fn k Z (.run (.seq a b)) K st r
  | cond {c a b t K st r} : ev E st.s c = .lit (.bool t) → RunsV call E f fn k Z (.run (if t then a else b)) K st r → RunsV call E f fn k Z (.run (.cond c a b)) K st r
  | block {id b K st r} : RunsV call E f fn k Z (.run b) (.blk id :: K) st r → RunsV call E f fn k Z (.run (.block id b)) K st r
  | loop {b K st r} : RunsV call E f fn k Z (.run b) (.loop b :: K) st r → RunsV call E f fn k Z (.run (.loop b)) K st r
  | exit {id K st r} : RunsV call E f fn k Z (.exit id) K st r → RunsV call E f fn k Z (.run (.exit id)) K st r
  | ret {K st r} : RunsV call E f fn k Z .ret K st r → RunsV call E f fn k Z (.run .ret) K st r
  | nseq {c K st r} : RunsV call E f fn k Z (.run c) K st r → RunsV call E f fn k Z .nxt (.seq c :: K) st r
  | nblk {id K st r} : RunsV call E f fn k Z .nxt K st r → RunsV call E f fn k Z .nxt (.blk id :: K) st r
  | nloop {b K st r} : RunsV call E f fn k Z (.run b) (.loop b :: K) st r → RunsV call E f fn k Z .nxt (.loop b :: K) st r
  | eseq {id c K st r} : RunsV call E f fn k Z (.exit id) K st r → RunsV call E f fn k Z (.exit id) (.seq c :: K) st r
  | eloop {id b K st r} : RunsV call E f fn k Z (.exit id) K st r → RunsV call E f fn k Z (.exit id) (.loop b :: K) st r
  | eblk {id K st r} : RunsV call E f fn k Z .nxt K st r → RunsV call E f fn k Z (.exit id) (.blk id :: K) st r
  | epass {id i K st r} : id ≠ i → RunsV call E f fn k Z (.exit id) K st r → RunsV call E f fn k Z (.exit id) (.blk i :: K) st r
  | rany {x K st r} : RunsV call E f fn k Z .ret K st r → RunsV call E f fn k Z .ret (x :: K) st r
  | finN {st r} : Z st r → RunsV call E f fn k Z .nxt [] st r
  | finR {st r} : Z st r → RunsV call E f fn k Z .ret [] st r
  | tidy {ctl K ids st st' r} : TidyR k ids st st' → RunsV call E f fn k Z ctl K st' r → RunsV call E f fn k Z ctl K st r
  | packd {ctl K fa fb keep ids as H2 st r} : pack fa fb k (keep.map fun i => st.s.getD i .und) st.H = some (ids, as, H2) → ids.take k = List.range k → RunsV call E f fn k Z ctl K ⟨spread .und st.s.length keep (renFs (ids.idxOf ·) as), subH H2 ids⟩ r → RunsV call E f fn k Z ctl K st r

/-- Being at the end of a loop's body. -/
def LoopIn (P : Program) (b : Code) (Q : Exit → Act → World → Prop) (a : Act) (w : World) : Prop :=
  ∀ fr k cs, ∃ e a' w', Q e a' w' ∧ Arrives P (lone (fr.at a (.code b :: .inLoop b :: k)) cs w) fr k cs e a' w'

theorem LoopIn.of {P : Program} {b : Code} {Q : Exit → Act → World → Prop} {a : Act} {w : World} (h : b.wp P (Exit.then (LoopIn P b Q) Q) a w) : LoopIn P b Q a w := by
  intro fr k cs
  obtain ⟨e, a₁, w₁, hq, harr⟩ := h fr (.inLoop b :: k) cs
  cases e with
  | normal =>
    obtain ⟨e₂, a₂, w₂, hq₂, harr₂⟩ := hq fr k cs
    exact ⟨e₂, a₂, w₂, hq₂, .of_steps (Steps.trans harr (.one step_inLoop)) harr₂⟩
  | exit id => exact ⟨_, a₁, w₁, hq, .pass (x := .inLoop b) rfl (fun _ _ => .inl (by simp)) harr⟩
  | goto l => exact ⟨_, a₁, w₁, hq, .pass (x := .inLoop b) rfl (fun _ _ => .inl (by simp)) harr⟩
  | ret => exact ⟨_, a₁, w₁, hq, .pass (x := .inLoop b) rfl (fun _ _ => .inl (by simp)) harr⟩
  | panic ch => exact ⟨_, a₁, w₁, hq, .pass (x := .inLoop b) rfl (fun _ _ => .inl (by simp)) harr⟩
  | outgrown => exact ⟨_, a₁, w₁, hq, .pass (x := .inLoop b) rfl (fun _ _ => .inl (by simp)) harr⟩

theorem LoopIn.wp {P : Program} {b : Code} {Q : Exit → Act → World → Prop} {a : Act} {w : World} (h : LoopIn P b Q a w) : (Code.loop b).wp P Q a w := by
  intro fr k cs
  obtain ⟨e, a', w', hq, harr⟩ := h fr k cs
  exact ⟨e, a', w', hq, .of_steps (.one step_loop) harr⟩

def QK (P : Program) (Z : Act → World → Prop) : List Fr → Exit → Act → World → Prop
  | [], .normal, a, w => Z a w
  | [], .ret, a, w => Z a w
  | [], _, _, _ => False
  | .seq c :: K, e, a, w => Exit.then (c.wp P (QK P Z K)) (QK P Z K) e a w
  | .blk id :: K, e, a, w => Exit.inBlock id (QK P Z K) e a w
  | .loop b :: K, e, a, w => Exit.then (LoopIn P b (QK P Z K)) (QK P Z K) e a w

def CtlWp (P : Program) (Z : Act → World → Prop) (K : List Fr) (a : Act) (w : World) : Ctl → Prop
  | .run c => c.wp P (QK P Z K) a w
  | .nxt => QK P Z K .normal a w
  | .exit id => QK P Z K (.exit id) a w
  | .ret => QK P Z K .ret a w

def calmCtl (E : Env) (f : FuncId) : Ctl → Bool
  | .run c => calmC E f c
  | _ => true
def calmK (E : Env) (f : FuncId) : List Fr → Bool
  | [] => true
  | .seq c :: K => calmC E f c && calmK E f K
  | .loop c :: K => calmC E f c && calmK E f K
  | .blk _ :: K => calmK E f K

theorem retypeRL_reps {σ w} : ∀ (rs : List (List Nat)) {xs : List V} {vs : List Value}, Reps σ w xs vs → Reps σ w (retypeRL rs xs) vs := by
  intro rs
  induction rs with
  | nil => intro xs vs h; simpa [retypeRL] using h
  | cons r rs ih =>
    intro xs vs h
    cases xs with
    | nil => simpa [retypeRL] using h
    | cons x xs =>
      obtain ⟨v, vs', rfl, h1, h2⟩ := h.cons_left
      exact Reps.cons_iff.2 ⟨retype_reps _ h1, ih h2⟩

theorem retypeT_reps {σ w x v} (rs : List (List Nat)) (h : Reps σ w [x] [v]) : Reps σ w [retypeR rs x] [v] := by
  unfold retypeR
  split
  · cases h with
    | tup h1 _ => exact .tup (retypeRL_reps rs h1) .nil
  · exact retype_reps _ h

theorem retypeRL_noRef : ∀ (rs : List (List Nat)) (xs : List V), noRefs (retypeRL rs xs) = noRefs xs := by
  intro rs
  induction rs with
  | nil => intro xs; simp [retypeRL]
  | cons r rs ih => intro xs; cases xs <;> simp [retypeRL, noRefs, retype_noRef, ih]

theorem retypeR_noRef (rs : List (List Nat)) (x : V) (h : noRef x = true) : noRef (retypeR rs x) = true := by
  unfold retypeR
  split
  · simpa [noRef, retypeRL_noRef] using h
  · rw [retype_noRef]; exact h

/-- How a call that freezes its result ends. -/
def Zp (E : Env) (fn : Func) (st : St) (r : V × Heap) : Prop := ∃ r0 r1, resultsD E st.H st.s fn.results.toList = some r0 ∧ frzT st.H r0 = some r1 ∧ r = (retypeR (fn.resultTypes.toList.map E.rows) r1, [])
/-- How a call that is given boxes ends. -/
def Zh (E : Env) (fn : Func) (fa : List (List Fk)) (fb : List Bf) (k : Nat) (st : St) (r : V × Heap) : Prop := ∃ r0, resultsD E st.H st.s fn.results.toList = some r0 ∧ exitV fa fb k r0 st.H = some r

/-- What is known at the end of a call. -/
def Fin (P : Program) (fn : Func) (B : Nat) (w0 : Start) (r : V × Heap) (a : Act) (w : World) : Prop :=
  a.defers = [] ∧ ∃ u fz', (results fn a.tmps).run P w = .ok u w ∧ Below B w0.w w ∧ (∀ b c, w0.fz b c → fz' b c) ∧ (∀ b c, fz' b c → b < B → w0.fz b c) ∧ (∀ b c, fz' b c → ∃ u, w.cell? ⟨b, c, none⟩ = some u) ∧ Reps (bare fz') w [r.1] [u] ∧ noRef r.1 = true

def FinH (P : Program) (fn : Func) (B : Nat) (w0 : Start) (σ0 : Sg) (ws : World) (r : V × Heap) (a : Act) (w : World) : Prop :=
  a.defers = [] ∧ ∃ u σ', (results fn a.tmps).run P w = .ok u w ∧ Inv B w0 σ' r.2 w ∧ Ext σ0 ws σ' w ∧ Reps σ' w [r.1] [u]

/-- What may turn, of the first k boxes. -/
structure ExtK (k : Nat) (σ : Sg) (w : World) (σ' : Sg) (w' : World) : Prop where
  box : ∀ id L, id < k → σ.box id = some L → ∃ L', σ'.box id = some L' ∧ L'.esz = L.esz ∧ (L' = L ∨ L.tot < L'.tot)
  fz : ∀ b c, σ.fz b c → σ'.fz b c ∧ w'.cell? ⟨b, c, none⟩ = w.cell? ⟨b, c, none⟩

theorem Ext.k {k : Nat} {σ w σ' w'} (h : Ext σ w σ' w') : ExtK k σ w σ' w' := ⟨fun id L _ hL => h.box id L hL, h.fz⟩
theorem ExtK.trans {k : Nat} {σ w σ' w' σ'' w''} (h : ExtK k σ w σ' w') (g : Ext σ' w' σ'' w'') : ExtK k σ w σ'' w'' := by
  refine ⟨fun id L hk hL => ?_, fun b c hc => ?_⟩
  · obtain ⟨L', h1, h2, h3⟩ := h.box id L hk hL
    obtain ⟨L'', k1, k2, k3⟩ := g.box id L' h1
    refine ⟨L'', k1, k2.trans h2, ?_⟩
    rcases h3 with rfl | h3
    · exact k3
    · rcases k3 with rfl | k3
      · exact .inr h3
      · exact .inr (Nat.lt_trans h3 k3)
  · obtain ⟨a1, a2⟩ := h.fz b c hc
    obtain ⟨b1, b2⟩ := g.fz b c a1
    exact ⟨b1, b2.trans a2⟩
theorem take_range {ids : List Nat} {k j : Nat} (h : ids.take k = List.range k) (hj : j < k) : ids[j]? = some j := by
  have : (ids.take k)[j]? = some j := by rw [h]; simp [hj]
  rw [List.getElem?_take] at this
  simpa [hj] using this
theorem ExtK.ren {k : Nat} {σ w σ' w'} {ids : List Nat} (h : ExtK k σ w σ' w') (hp : ids.take k = List.range k) : ExtK k σ w (σ'.ren ids) w' := by
  refine ⟨fun id L hk hL => ?_, h.fz⟩
  obtain ⟨L', h1, h2⟩ := h.box id L hk hL
  exact ⟨L', by simp only [Sg.ren, take_range hp hk, Option.bind_some]; exact h1, h2⟩

section
variable {P : Program} {E : Env} {B : Nat} {w0 : Start} {call : CallF} {f : FuncId} {fn : Func}

theorem fin_ok (hE : EnvOK E) (hP : E.P = P) {σ : Sg} {st : St} {a : Act} {w : World} {r : V × Heap} (h : Rel E B w0 σ st a w) (hfz : ∀ b c, w0.fz b c → σ.fz b c) (hz : Zp E fn st r) : Fin P fn B w0 r a w := by
  obtain ⟨r0, r1, hr, hf, rfl⟩ := hz
  obtain ⟨u, hu, hur⟩ := results_ok (P := P) hE hP h.inv h.slots hr
  obtain ⟨hI, hEx⟩ := h.inv.freeze (idsT r0)
  have hr2 := frzT_reps h.inv hur hf (idsT r0) (fun i hi => hi)
  have hn := frzT_noRef h.inv hur hf
  refine ⟨h.calm, u, (σ.freeze st.H (idsT r0)).fz, hu, hI.below, fun b c hh => (hEx.fz b c (hfz b c hh)).1, fun b c hh hlt => hI.old b c hh hlt, hI.cells, ?_, retypeR_noRef _ _ hn⟩
  exact Reps.bare (retypeT_reps _ hr2) (fun b c hh => ⟨hh, rfl⟩) (by simp [noRefs, retypeR_noRef _ _ hn])

theorem finH_ok (hE : EnvOK E) (hP : E.P = P) {fa : List (List Fk)} {fb : List Bf} {k : Nat} {σ0 : Sg} {ws : World} (h0 : ∀ id L, σ0.box id = some L → id < k) {σ : Sg} {st : St} {a : Act} {w : World} {r : V × Heap} (h : Rel E B w0 σ st a w) (hx : ExtK k σ0 ws σ w)
    (hz : Zh E fn fa fb k st r) : FinH P fn B w0 σ0 ws r a w := by
  obtain ⟨r0, hr, he⟩ := hz
  obtain ⟨u, hu, hur⟩ := results_ok (P := P) hE hP h.inv h.slots hr
  have key : ∀ {args as : List V} {vs : List Value} {ids : List Nat} {H2 : Heap}, Reps σ w args vs → pack fa fb k args st.H = some (ids, as, H2) → ids.take k = List.range k →
      ∃ σ', Inv B w0 σ' (subH H2 ids) w ∧ Ext σ0 ws σ' w ∧ Reps σ' w (renFs (ids.idxOf ·) as) vs := by
    intro args as vs ids H2 hra hp hk
    obtain ⟨hs, hm, _, σ1, hI1, hE1, hr1⟩ := pack_ok h.inv hra hp
    have hsub := sub_ok hI1 hs w0 hI1.below hI1.old (fun b hb => by
      obtain ⟨k1, k2, k3, k4⟩ := hI1.kept b hb
      exact ⟨k1, k2, fun id _ L hL => k3 id L hL, k4⟩)
    refine ⟨_, hsub, ?_, sub_reps hr1 hm⟩
    have := (hx.trans hE1).ren hk
    exact ⟨fun id L hL => this.box id L (h0 id L hL) hL, this.fz⟩
  refine ⟨h.calm, u, ?_⟩
  unfold exitV at he
  split at he
  · rename_i vs
    split at he
    · rename_i ids as H2 hp
      split at he
      · rename_i hk
        simp only [Option.some.injEq] at he
        subst he
        cases hur with
        | tup h1 _ =>
          obtain ⟨σ', i1, i2, i3⟩ := key h1 hp hk
          exact ⟨σ', hu, i1, i2, .tup i3 .nil⟩
      · cases he
    · cases he
  · split at he
    · rename_i ids x H2 hp
      split at he
      · rename_i hk
        simp only [Option.some.injEq] at he
        subst he
        obtain ⟨σ', i1, i2, i3⟩ := key hur hp hk
        exact ⟨σ', hu, i1, i2, i3⟩
      · cases he
    · cases he

theorem runs_ok (hE : EnvOK E) (hP : E.P = P) (hcall : CallOK P E B w0 call) (hpure : CallsOK E call) {k : Nat} {Z : St → V × Heap → Prop} {F : V × Heap → Act → World → Prop} {σ0 : Sg} {ws : World}
    (hZ : ∀ st r σ a w, Z st r → Rel E B w0 σ st a w → ExtK k σ0 ws σ w → F r a w) {ctl : Ctl} {K : List Fr} {st : St} {r : V × Heap} (h : RunsV call E f fn k Z ctl K st r) :
    calmCtl E f ctl = true → calmK E f K = true → ∀ (σ : Sg) (a : Act) (w : World), Rel E B w0 σ st a w → ExtK k σ0 ws σ w → CtlWp P (F r) K a w ctl := by
  induction h with
  | skip h ih => intro hc hk σ a w hr hf; exact wp_skip (ih rfl hk σ a w hr hf)
  | region hs h ih =>
    intro hc hk σ a w hr hf
    exact wp_region (opsD_ok hE hP hcall _ _ σ a w hr hs (fun a' w' σ' hr' he' => ih rfl hk σ' a' w' hr' (hf.trans he')))
  | draw hcalm hs h ih =>
    intro hc hk σ a w hr hf
    refine draw_ok hE hP (by rw [← hP]; exact hE.mix) hcall hpure ?_ hr hs (fun a' w' σ' hr' he' => ih rfl hk σ' a' w' hr' (hf.trans he'))
    simpa [calmCtl, calmC, hcalm] using hc
  | seq h ih =>
    intro hc hk σ a w hr hf
    simp only [calmCtl, calmC, Bool.and_eq_true] at hc
    exact wp_seq (ih hc.1 (by simp [calmK, hc.2, hk]) σ a w hr hf)
  | cond ht h ih =>
    rename_i c x y t K st r
    intro hc hk σ a w hr hf
    simp only [calmCtl, calmC, Bool.and_eq_true] at hc
    have hv := ev_reps (a := a) hr.glob hr.slots c
    rw [ht] at hv
    have hb : a.eval c = .bool t := by generalize a.eval c = v at hv; cases hv; rfl
    refine wp_cond hb ?_
    refine ih ?_ hk σ a w hr hf
    cases t
    · exact hc.2
    · exact hc.1
  | block h ih =>
    intro hc hk σ a w hr hf
    exact wp_block (ih hc hk σ a w hr hf)
  | loop h ih =>
    intro hc hk σ a w hr hf
    simp only [calmCtl, calmC] at hc
    exact (LoopIn.of (ih hc (by simp [calmK, hc, hk]) σ a w hr hf)).wp
  | exit h ih => intro hc hk σ a w hr hf; exact wp_exit (ih rfl hk σ a w hr hf)
  | ret h ih => intro hc hk σ a w hr hf; exact wp_ret (ih rfl hk σ a w hr hf)
  | nseq h ih =>
    intro hc hk σ a w hr hf
    simp only [calmK, Bool.and_eq_true] at hk
    exact ih hk.1 hk.2 σ a w hr hf
  | nblk h ih => intro hc hk σ a w hr hf; exact ih rfl hk σ a w hr hf
  | nloop h ih =>
    intro hc hk σ a w hr hf
    have hk' := hk
    simp only [calmK, Bool.and_eq_true] at hk'
    exact LoopIn.of (ih hk'.1 hk σ a w hr hf)
  | eseq h ih =>
    intro hc hk σ a w hr hf
    simp only [calmK, Bool.and_eq_true] at hk
    exact ih rfl hk.2 σ a w hr hf
  | eloop h ih =>
    intro hc hk σ a w hr hf
    simp only [calmK, Bool.and_eq_true] at hk
    exact ih rfl hk.2 σ a w hr hf
  | eblk h ih =>
    intro hc hk σ a w hr hf
    have := ih rfl hk σ a w hr hf
    simp only [CtlWp, QK, Exit.inBlock, if_true]
    exact this
  | epass hne h ih =>
    intro hc hk σ a w hr hf
    have := ih rfl hk σ a w hr hf
    simp only [CtlWp, QK, Exit.inBlock, hne, if_false]
    exact this
  | rany h ih =>
    rename_i x K st r
    intro hc hk σ a w hr hf
    have : calmK E f K = true := by cases x <;> simp_all [calmK]
    have := ih rfl this σ a w hr hf
    cases x <;> exact this
  | finN hz => intro hc hk σ a w hr hf; exact hZ _ _ σ a w hz hr hf
  | finR hz => intro hc hk σ a w hr hf; exact hZ _ _ σ a w hz hr hf
  | tidy ht h ih => intro hc hk σ a w hr hf; exact ih hc hk _ a w (tidy_ok ht hr) (hf.ren ht.pre)
  | packd hp hpre h ih =>
    intro hc hk σ a w hr hf
    obtain ⟨σ1, h1, h2⟩ := packd_ok hp hr
    exact ih hc hk _ a w h2 ((hf.trans h1).ren hpre)

end

end Go.Proofs.YtkepnndakhpgoaaGreatDoor.Le

/-
  Code over symbolic values: trees of what a piece of code comes to. They are sound.
-/
namespace Go.Proofs.YtkepnndakhpgoaaGreatDoor.Le
set_option linter.unusedVariables false
set_option linter.unusedSimpArgs false
open Go.RowKit (Below)

section
variable {U : Univ}

/-! ### boxes in order -/

def norm1 : SV U.Ty → SV U.Ty
  | .lit (.int k a) => .si k a
  | .lit (.bool b) => .sb b
  | .lit (.string s) => .ss s
  | v => v
def normS : SV U.Ty → SV U.Ty
  | .agg cs => .agg (cs.map norm1)
  | v => norm1 v
def renS (ids : List Nat) (x : SV U.Ty) : SV U.Ty := renFS (ids.idxOf ·) (normS x)
def canS (ids : List Nat) (x : SV U.Ty) : Bool := (refsFS x).all ids.contains

def boxRefs (H : SHeap U) (id : Nat) : List Nat := match H[id]? with | some (.var _ _ x) => refsFS x | _ => []

def collectS (H : SHeap U) : Nat → List Nat → List Nat → List Nat
  | 0, _, seen => seen
  | _ + 1, [], seen => seen
  | n + 1, id :: todo, seen => if seen.contains id then collectS H n todo seen else collectS H n (todo ++ boxRefs H id) (seen ++ [id])

def tidyBox (ids : List Nat) : SBox U.Ty → SBox U.Ty
  | .var e n x => .var e n (renS ids x)
  | .row t xs fl => .row t xs (fl.map fun _ => xs.length)
  | b => b

def boxFine (ids : List Nat) (H : SHeap U) (id : Nat) : Bool := match H[id]? with
  | some (.var _ _ x) => canS ids x
  | some (.row _ _ _) => true
  | _ => false

def distinct : List Nat → Bool
  | [] => true
  | x :: xs => !xs.contains x && distinct xs

def keepS (keep ids : List Nat) : Nat → List (SV U.Ty) → List (SV U.Ty)
  | _, [] => []
  | i, v :: vs => (if keep.contains i then renS ids v else .und) :: keepS keep ids (i + 1) vs

/-- The length of what a slice looks at, as its box has it now; whether it is what it was. -/
def lenFix (H : SHeap U) : SV U.Ty → SV U.Ty
  | .all id n => match H[id]? with | some (.row t xs _) => .all id xs.length | _ => .all id n
  | .lsl id off len tot => match H[id]? with | some (.row t xs _) => .lsl id off len xs.length | _ => .lsl id off len tot
  | v => v
def lenFixA (H : SHeap U) : SV U.Ty → SV U.Ty
  | .agg cs => .agg (cs.map (lenFix H))
  | v => lenFix H v
def lenChk (H : SHeap U) : SV U.Ty → Bool
  | .all id n => match H[id]? with | some (.row t xs _) => xs.length == n | _ => true
  | .lsl id off len tot => match H[id]? with | some (.row t xs _) => xs.length == tot | _ => true
  | _ => true
def hasLen : SV U.Ty → Bool
  | .all _ _ => true
  | .lsl _ _ _ _ => true
  | _ => false
def chks (H : SHeap U) : SV U.Ty → List Bool
  | .agg cs => (cs.filter hasLen).map (lenChk H)
  | v => if hasLen v then [lenChk H v] else []
def andAll : List Bool → Bool
  | [] => true
  | [b] => b
  | b :: bs => b && andAll bs

def tidyIds (k : Nat) (keep : List Nat) (st : SSt U) : List Nat := collectS st.H 1000 (List.range k ++ keep.flatMap fun i => refsFS (st.s.getD i .und)) []

def boxChks (H : SHeap U) (id : Nat) : List Bool := match H[id]? with | some (.var _ _ x) => chks H x | _ => []

def fixBox (H : SHeap U) : SBox U.Ty → SBox U.Ty
  | .var e n x => .var e n (lenFixA H x)
  | b => b

def tidyT (k : Nat) (keep : List Nat) (st : SSt U) : Tr U (SSt U) :=
  let ids := tidyIds k keep st
  let cs := (keep.flatMap fun i => chks st.H (st.s.getD i .und)) ++ ids.flatMap (boxChks st.H)
  let out : Tr U (SSt U) := .leaf ⟨keepS keep ids 0 (st.s.map (lenFixA st.H)), ids.map fun id => tidyBox ids (fixBox st.H ((st.H[id]?).getD .dead))⟩
  .when ((distinct ids && decide (ids.take k = List.range k) && ids.all (boxFine ids st.H) && keep.all (fun i => canS ids (st.s.getD i .und))) = true)
    (match cs with
     | [] => out
     | c :: cs => .chk (andAll (c :: cs)) out)

theorem norm1_toV (x : SV U.Ty) : toV U (norm1 x) = toV U x := by
  unfold norm1; split <;> rfl

theorem normS_toV (x : SV U.Ty) : toV U (normS x) = toV U x := by
  unfold normS
  split
  · simp only [toV, toVs_map, List.map_map, V.agg.injEq]
    apply List.map_congr_left
    intro c _
    exact norm1_toV c
  · exact norm1_toV x

theorem ren_toV (ids : List Nat) (x : SV U.Ty) : toV U (renS ids x) = renF (ids.idxOf ·) (toV U x) := by
  unfold renS
  rw [renF_toV, normS_toV]

theorem can_toV {ids : List Nat} {x : SV U.Ty} (h : canS ids x = true) : ∀ r ∈ refsF (toV U x), r ∈ ids := by
  intro r hr
  rw [refsF_toV] at hr
  simp only [canS, List.all_eq_true] at h
  simpa using h r hr

theorem distinct_ok : ∀ {l : List Nat}, distinct l = true → l.Nodup := by
  intro l
  induction l with
  | nil => intro _; exact List.nodup_nil
  | cons x xs ih =>
    intro h
    simp only [distinct, Bool.and_eq_true, Bool.not_eq_true', List.contains_eq_mem, decide_eq_false_iff_not] at h
    exact List.nodup_cons.2 ⟨h.1, ih h.2⟩

theorem keepS_get (keep ids : List Nat) : ∀ (vs : List (SV U.Ty)) (k i : Nat), (keepS keep ids k vs)[i]? = (vs[i]?).map fun v => if keep.contains (k + i) then renS ids v else .und := by
  intro vs
  induction vs with
  | nil => intro k i; simp [keepS]
  | cons v vs ih =>
    intro k i
    cases i with
    | zero => simp [keepS]
    | succ i =>
      simp only [keepS, List.getElem?_cons_succ, ih]
      rw [show k + 1 + i = k + (i + 1) by omega]

theorem keepS_length (keep ids : List Nat) : ∀ (vs : List (SV U.Ty)) (k : Nat), (keepS keep ids k vs).length = vs.length := by
  intro vs
  induction vs with
  | nil => intro k; rfl
  | cons v vs ih => intro k; simp [keepS, ih]

theorem andAll_mem : ∀ {l : List Bool}, andAll l = true → ∀ b ∈ l, b = true := by
  intro l
  induction l with
  | nil => intro _ b hb; simp at hb
  | cons x xs ih =>
    intro h b hb
    cases xs with
    | nil => simp only [andAll] at h; simp only [List.mem_singleton] at hb; rw [hb]; exact h
    | cons y ys =>
      simp only [andAll, Bool.and_eq_true] at h
      rcases List.mem_cons.1 hb with hb | hb
      · rw [hb]; exact h.1
      · exact ih h.2 b hb

theorem lenFix_eq {H : SHeap U} {x : SV U.Ty} (h : lenChk H x = true) : lenFix H x = x := by
  unfold lenChk at h
  unfold lenFix
  split at h
  · split at h
    · rename_i hb
      simp only [beq_iff_eq] at h
      simp only [hb, h]
    · rfl
  · split at h
    · rename_i hb
      simp only [beq_iff_eq] at h
      simp only [hb, h]
    · rfl
  · rfl

theorem lenChk_no {H : SHeap U} {x : SV U.Ty} (h : hasLen x = false) : lenChk H x = true := by
  cases x <;> simp_all [hasLen, lenChk]

theorem lenFixA_eq {H : SHeap U} {x : SV U.Ty} (h : ∀ b ∈ chks H x, b = true) : lenFixA H x = x := by
  unfold lenFixA
  split
  · rename_i cs
    congr 1
    conv => rhs; rw [← List.map_id cs]
    apply List.map_congr_left
    intro c hc
    refine lenFix_eq ?_
    by_cases hl : hasLen c = true
    · refine h _ ?_
      simp only [chks, List.mem_map, List.mem_filter]
      exact ⟨c, ⟨hc, hl⟩, rfl⟩
    · exact lenChk_no (by simpa using hl)
  · rename_i hne
    refine lenFix_eq ?_
    by_cases hl : hasLen x = true
    · refine h _ ?_
      unfold chks
      split
      · exact absurd rfl (hne _)
      · simp [hl]
    · exact lenChk_no (by simpa using hl)

theorem tidyT_ok {k : Nat} {keep : List Nat} {st st' : SSt U} (h : (tidyT k keep st).Runs st') : ∃ ids, TidyR k ids (toSt U st) (toSt U st') := by
  unfold tidyT at h
  simp only [runs_when] at h
  generalize hids : tidyIds k keep st = ids at h
  obtain ⟨hc, h⟩ := h
  simp only [Bool.and_eq_true, List.all_eq_true, decide_eq_true_eq] at hc
  obtain ⟨⟨⟨h1, hpre⟩, h2⟩, h3⟩ := hc
  have hboth : (∀ b ∈ (keep.flatMap fun i => chks st.H (st.s.getD i .und)) ++ ids.flatMap (boxChks st.H), b = true) ∧
      st' = ⟨keepS keep ids 0 (st.s.map (lenFixA st.H)), ids.map fun id => tidyBox ids (fixBox st.H ((st.H[id]?).getD .dead))⟩ := by
    split at h
    · rename_i hnil
      simp only [Tr.Runs] at h
      exact ⟨by rw [hnil]; intro b hb; simp at hb, h.symm⟩
    · rename_i c cs hcons
      simp only [Tr.Runs] at h
      exact ⟨by rw [hcons]; exact andAll_mem h.1, h.2.symm⟩
  obtain ⟨hck, rfl⟩ := hboth
  have hslot : ∀ i ∈ keep, lenFixA st.H (st.s.getD i .und) = st.s.getD i .und := fun i hi => lenFixA_eq fun b hb => hck b (by
    simp only [List.mem_append, List.mem_flatMap]
    exact .inl ⟨i, hi, hb⟩)
  have hbx : ∀ id ∈ ids, ∀ e n x, st.H[id]? = some (.var e n x) → lenFixA st.H x = x := fun id hid e n x hb => lenFixA_eq fun b hb' => hck b (by
    simp only [List.mem_append, List.mem_flatMap]
    exact .inr ⟨id, hid, by simp [boxChks, hb]; exact hb'⟩)
  refine ⟨ids, distinct_ok h1, hpre, by simp [toSt, toH], ?_, by simp [toSt, toVs_map, keepS_length], ?_⟩
  · intro j id hj
    have hm := List.mem_of_getElem? hj
    have hf := h2 id hm
    unfold boxFine at hf
    have hget : (toSt U ⟨keepS keep ids 0 (st.s.map (lenFixA st.H)), ids.map fun id => tidyBox ids (fixBox st.H ((st.H[id]?).getD .dead))⟩).H[j]? = some (toBox U (tidyBox ids (fixBox st.H ((st.H[id]?).getD .dead)))) := by
      simp [toSt, toH, hj]
    have hget0 : (toSt U st).H[id]? = (st.H[id]?).map (toBox U) := toH_get _ _
    rw [hget, hget0]
    split at hf
    · rename_i e n x hb
      rw [hb]
      have hx := hbx id hm e n x hb
      refine ⟨_, _, rfl, rfl, rfl, rfl, rfl, fun h => h, rfl, rfl, .inl (Nat.le_refl _), ?_, fun hr => ?_, fun _ => ⟨?_, ?_⟩⟩
      · simp [fixBox, tidyBox, toBox, newBox]
      · simp [toBox, newBox] at hr
      · simp [fixBox, tidyBox, toBox, newBox, hx, ren_toV, renFs]
      · intro r hr
        simp only [toBox, newBox, refsFs, List.append_nil] at hr
        exact can_toV hf r hr
    · rename_i t xs fl hb
      rw [hb]
      refine ⟨_, _, rfl, rfl, rfl, rfl, rfl, fun h => h, rfl, rfl, ?_, ?_, fun hr => rfl, fun hr => ?_⟩
      · cases fl with
        | none => exact .inl (Nat.le_refl _)
        | some n => exact .inr (by simp [fixBox, tidyBox, toBox])
      · cases fl <;> simp [fixBox, tidyBox, toBox]
      · simp [toBox] at hr
    · cases hf
  · intro i v' hv
    simp only [toSt, toVs_map, List.getElem?_map] at hv
    rw [keepS_get] at hv
    cases hs : st.s[i]? with
    | none => simp [hs] at hv
    | some v =>
      simp only [List.getElem?_map, hs, Option.map_some, Option.some.injEq, Nat.zero_add] at hv
      subst hv
      split
      · rename_i hk
        have hmem : i ∈ keep := by simpa using hk
        have hk' := h3 i hmem
        have hv0 : st.s.getD i .und = v := by simp [List.getD, hs]
        have hfix := hslot i hmem
        rw [hv0] at hk' hfix
        rw [hfix]
        exact .inr ⟨toV U v, by simp [toSt, toVs_map, hs], ren_toV ids v, can_toV hk'⟩
      · exact .inl rfl

/-! ### results -/

def resT (E : Env) (H : SHeap U) (s : List (SV U.Ty)) : ResultVar → Tr U (SV U.Ty)
  | .tmp t => .leaf (s.getD t .und)
  | .cell a t => loadT E H t (s.getD a .und)

def ressT (E : Env) (H : SHeap U) (s : List (SV U.Ty)) : List ResultVar → Tr U (List (SV U.Ty))
  | [] => .leaf []
  | r :: rs => (resT E H s r).andThen fun v => (ressT E H s rs).andThen fun vs => .leaf (v :: vs)

def encAll : List Nat → List (SV U.Ty) → Option (List (SV U.Ty))
  | [], [] => some []
  | t :: ts, w :: ws => match U.decS t w, encAll ts ws with | some a, some r => some (U.encS t a :: r) | _, _ => none
  | _, _ => none

def doneT (E : Env) (fn : Func) (st : SSt U) : Tr U (SV U.Ty) :=
  (ressT E st.H st.s fn.results.toList).andThen fun vs =>
    match vs, fn.resultTypes.toList with
    | [v], [t] => (frzS st.H v).andThen fun w => (match U.decS t w with | some a => .leaf (U.encS t a) | none => .fail)
    | vs, ts => .when (vs.length ≠ 1) ((frzAllS st.H vs).andThen fun ws => (match encAll ts ws with | some es => .leaf (.tup es) | none => .fail))

theorem ressT_ok {E : Env} (hU : UnivOK U E) {st : SSt U} : ∀ {rs : List ResultVar} {vs : List (SV U.Ty)}, (ressT E st.H st.s rs).Runs vs → rs.mapM (resD E (toSt U st).H (toSt U st).s) = some (toVs U vs) := by
  intro rs
  induction rs with
  | nil => intro vs h; simp only [ressT, Tr.Runs] at h; subst h; rfl
  | cons r rs ih =>
    intro vs h
    simp only [ressT, runs_andThen, Tr.Runs] at h
    obtain ⟨v, h1, ws, h2, rfl⟩ := h
    have hr : resD E (toSt U st).H (toSt U st).s r = some (toV U v) := by
      cases r with
      | tmp t =>
        simp only [resT, Tr.Runs] at h1
        subst h1
        exact congrArg some (toVs_getD st.s t)
      | cell a t =>
        simp only [resD]
        rw [show (toSt U st).s.getD a .und = toV U (st.s.getD a .und) from toVs_getD st.s a]
        exact loadT_ok hU h1
    rw [List.mapM_cons, hr, ih h2]
    rfl

theorem encAll_ok {E : Env} (hU : UnivOK U E) : ∀ {ts : List Nat} {ws es : List (SV U.Ty)}, encAll ts ws = some es → retypeRL (ts.map E.rows) (toVs U ws) = toVs U es := by
  intro ts
  induction ts with
  | nil =>
    intro ws es h
    cases ws with
    | nil => simp only [encAll, Option.some.injEq] at h; subst h; rfl
    | cons => simp [encAll] at h
  | cons t ts ih =>
    intro ws es h
    cases ws with
    | nil => simp [encAll] at h
    | cons w ws =>
      simp only [encAll] at h
      split at h
      · rename_i a r h1 h2
        simp only [Option.some.injEq] at h
        subst h
        simp only [List.map_cons, toVs, retypeRL, hU.dec _ _ _ h1, hU.encS, ih h2]
      · cases h

theorem frz_tup {H : Heap} {x y : V} (h : frz H x = some y) : ∀ vs, y ≠ .tup vs := by
  intro vs hy
  subst hy
  unfold frz at h
  split at h
  · rename_i cs
    cases hl : frzL H cs <;> simp [hl] at h
  · unfold frz0 at h
    split at h <;> (try (cases h; done)) <;> (try (split at h <;> (try (split at h)) <;> cases h))

theorem doneT_ok {E : Env} (hU : UnivOK U E) {fn : Func} {st : SSt U} {v : SV U.Ty} (h : (doneT E fn st).Runs v) :
    ∃ r0 r1, resultsD E (toSt U st).H (toSt U st).s fn.results.toList = some r0 ∧ frzT (toSt U st).H r0 = some r1 ∧ retypeR (fn.resultTypes.toList.map E.rows) r1 = toV U v := by
  unfold doneT at h
  simp only [runs_andThen] at h
  obtain ⟨vs, h1, h⟩ := h
  have hm := ressT_ok hU h1
  split at h
  · rename_i v0 t hts
    simp only [runs_andThen] at h
    obtain ⟨w, h2, h⟩ := h
    split at h
    · rename_i a ha
      simp only [Tr.Runs] at h
      subst h
      have hf : frz (toSt U st).H (toV U v0) = some (toV U w) := frzS_ok h2
      refine ⟨toV U v0, toV U w, by simp only [resultsD, hm, toVs], ?_, ?_⟩
      · unfold frzT
        split
        · rename_i us hus
          rw [hus] at hf
          simp [frz, frz0] at hf
        · exact hf
      · rw [hts]
        unfold retypeR
        split
        · rename_i us hus
          exact absurd hus (frz_tup hf us)
        · simp only [List.map_cons, List.headD_cons, hU.dec _ _ _ ha, hU.encS]
    · simp [Tr.Runs] at h
  · rename_i va vs ts hneg
    simp only [runs_when, runs_andThen] at h
    obtain ⟨hl, ws, h2, h⟩ := h
    split at h
    · rename_i es hes
      simp only [Tr.Runs] at h
      subst h
      refine ⟨.tup (toVs U va), .tup (toVs U ws), ?_, ?_, ?_⟩
      · simp only [resultsD, hm]
        split
        · rename_i x hx
          simp only [Option.some.injEq] at hx
          exfalso
          apply hl
          have := congrArg List.length hx
          rw [length_toVs] at this
          simpa using this
        · rename_i hx
          simp only [Option.some.injEq] at hx
          rw [← hx]
        · rename_i hx; cases hx
      · simp only [frzT, toSt, frzAllS_ok h2, Option.map_some]
      · simp only [retypeR, encAll_ok hU hes, toV]
    · simp [Tr.Runs] at h

/-- The end of a call that freezes its result. -/
def doneP (E : Env) (fn : Func) (st : SSt U) : Tr U (SV U.Ty × SHeap U) := (doneT E fn st).andThen fun v => .leaf (v, [])

/-- The end of a call that is given boxes. -/
def doneH (E : Env) (fn : Func) (fa : List (List Fk)) (fb : List Bf) (k : Nat) (st : SSt U) : Tr U (SV U.Ty × SHeap U) :=
  (ressT E st.H st.s fn.results.toList).andThen fun vs =>
    match vs with
    | [.tup _] => .fail
    | [.raw _] => .fail
    | [v] => (packS fa fb k [v] st.H).andThen fun r => (match r.2.1 with
      | [a] => .when (r.1.take k = List.range k) (.leaf (renFS (r.1.idxOf ·) a, subHS r.2.2 r.1))
      | _ => .fail)
    | vs => .when (vs.length ≠ 1) ((packS fa fb k vs st.H).andThen fun r => .when (r.1.take k = List.range k) (.leaf (.tup (renFSs (r.1.idxOf ·) r.2.1), subHS r.2.2 r.1)))

theorem doneP_ok {E : Env} (hU : UnivOK U E) {fn : Func} {st : SSt U} {r : SV U.Ty × SHeap U} (h : (doneP E fn st).Runs r) : Zp E fn (toSt U st) (toV U r.1, toH U r.2) := by
  simp only [doneP, runs_andThen, Tr.Runs] at h
  obtain ⟨v, h1, rfl⟩ := h
  obtain ⟨r0, r1, e1, e2, e3⟩ := doneT_ok hU h1
  exact ⟨r0, r1, e1, e2, by rw [e3]; rfl⟩

theorem doneH_ok {E : Env} (hU : UnivOK U E) {fn : Func} {fa : List (List Fk)} {fb : List Bf} {k : Nat} {st : SSt U} {r : SV U.Ty × SHeap U} (h : (doneH E fn fa fb k st).Runs r) : Zh E fn fa fb k (toSt U st) (toV U r.1, toH U r.2) := by
  simp only [doneH, runs_andThen] at h
  obtain ⟨vs, h1, h⟩ := h
  have hm := ressT_ok hU h1
  split at h
  · simp [Tr.Runs] at h
  · simp [Tr.Runs] at h
  · rename_i v hn1 hn2
    simp only [runs_andThen] at h
    obtain ⟨p, hp, h⟩ := h
    split at h
    · rename_i a ha
      simp only [runs_when, Tr.Runs] at h
      obtain ⟨hk, rfl⟩ := h
      have hp' := packS_ok hp
      rw [ha] at hp'
      refine ⟨toV U v, by simp only [resultsD, hm, toVs], ?_⟩
      have hnt : ∀ cs, toV U v ≠ .tup cs := by
        intro cs hcs
        cases v with
        | tup vs => exact hn1 vs rfl
        | raw x => exact hn2 x rfl
        | _ => simp [toV] at hcs
      unfold exitV
      split
      · rename_i cs hcs; exact absurd hcs (hnt cs)
      · simp only [toVs] at hp'
        simp only [toSt, hp']
        rw [if_pos hk, renF_toV, subHS_toH]
    · simp [Tr.Runs] at h
  · rename_i hneg
    simp only [runs_when, runs_andThen, Tr.Runs] at h
    obtain ⟨hl, p, hp, hk, rfl⟩ := h
    have hp' := packS_ok hp
    refine ⟨.tup (toVs U vs), ?_, ?_⟩
    · simp only [resultsD, hm]
      split
      · rename_i x hx
        simp only [Option.some.injEq] at hx
        exfalso
        apply hl
        have := congrArg List.length hx
        rw [length_toVs] at this
        simpa using this
      · rename_i hx
        simp only [Option.some.injEq] at hx
        rw [← hx]
      · rename_i hx; cases hx
    · simp only [exitV, toSt, hp']
      rw [if_pos hk, subHS_toH]
      simp only [toV, renFs_toV]

/-! ### code -/

inductive Leaf (U : Univ) where
  | done (v : SV U.Ty × SHeap U)
  | jump (c : Code) (K : List Fr) (st : SSt U)

/-- What the code comes to from here on, up to the next marked regions. 'sk': the mark of the first region is passed over. -/
def runT (E : Env) (M : Mdl U) (A : Nat → Option (List Nat)) (f : FuncId) (fn : Func) (kk : Nat) (D : SSt U → Tr U (SV U.Ty × SHeap U)) : Nat → Ctl → List Fr → SSt U → Bool → Tr U (Leaf U)
  | 0, _, _, _, _ => .fail
  | n + 1, .run c, K, st, sk =>
    match c with
    | .skip => runT E M A f fn kk D n .nxt K st sk
    | .region id ops draw =>
      let go : Tr U (Leaf U) := if draw then (if E.calm f id then (drawT E M ops st).andThen fun st' => runT E M A f fn kk D n .nxt K st' false else .fail)
        else (opsT E M ops (List.range ops.size) st).andThen fun st' => runT E M A f fn kk D n .nxt K st' false
      match sk with
      | true => go
      | false => match A id with
        | none => go
        | some keep => (tidyT kk keep st).andThen fun st' => .leaf (.jump (.region id ops draw) K st')
    | .seq a b => runT E M A f fn kk D n (.run a) (.seq b :: K) st sk
    | .cond c a b => match evS E st.s c with
      | .lit (.bool true) => runT E M A f fn kk D n (.run a) K st sk
      | .lit (.bool false) => runT E M A f fn kk D n (.run b) K st sk
      | .sb t => .br t (runT E M A f fn kk D n (.run a) K st sk) (runT E M A f fn kk D n (.run b) K st sk)
      | _ => .fail
    | .block id b => runT E M A f fn kk D n (.run b) (.blk id :: K) st sk
    | .loop b => runT E M A f fn kk D n (.run b) (.loop b :: K) st sk
    | .exit id => runT E M A f fn kk D n (.exit id) K st sk
    | .ret => runT E M A f fn kk D n .ret K st sk
    | _ => .fail
  | n + 1, .nxt, [], st, _ => (D st).andThen fun v => .leaf (.done v)
  | n + 1, .nxt, .seq c :: K, st, sk => runT E M A f fn kk D n (.run c) K st sk
  | n + 1, .nxt, .blk _ :: K, st, sk => runT E M A f fn kk D n .nxt K st sk
  | n + 1, .nxt, .loop b :: K, st, sk => runT E M A f fn kk D n (.run b) (.loop b :: K) st sk
  | n + 1, .exit id, .blk i :: K, st, sk => if id = i then runT E M A f fn kk D n .nxt K st sk else runT E M A f fn kk D n (.exit id) K st sk
  | n + 1, .exit id, _ :: K, st, sk => runT E M A f fn kk D n (.exit id) K st sk
  | n + 1, .exit _, [], _, _ => .fail
  | n + 1, .ret, [], st, _ => (D st).andThen fun v => .leaf (.done v)
  | n + 1, .ret, _ :: K, st, sk => runT E M A f fn kk D n .ret K st sk

def LeafPost (call : CallF) (E : Env) (f : FuncId) (fn : Func) (kk : Nat) (Z : St → V × Heap → Prop) : Leaf U → V × Heap → Prop
  | .done s, v => v = (toV U s.1, toH U s.2)
  | .jump c K st, v => RunsV call E f fn kk Z (.run c) K (toSt U st) v

theorem runT_ok {E : Env} {M : Mdl U} {A : Nat → Option (List Nat)} {call : CallF} (hU : UnivOK U E) (hM : MdlOK U M call) {f : FuncId} {fn : Func} {kk : Nat} {D : SSt U → Tr U (SV U.Ty × SHeap U)} {Z : St → V × Heap → Prop} (hD : ∀ st s, (D st).Runs s → Z (toSt U st) (toV U s.1, toH U s.2)) {r : V × Heap} : ∀ (n : Nat) (ctl : Ctl) (K : List Fr) (st : SSt U) (sk : Bool) (l : Leaf U),
    (runT E M A f fn kk D n ctl K st sk).Runs l → LeafPost call E f fn kk Z l r → RunsV call E f fn kk Z ctl K (toSt U st) r := by
  intro n
  induction n with
  | zero => intro ctl K st sk l h; simp [runT, Tr.Runs] at h
  | succ n ih =>
    intro ctl K st sk l h hl
    cases ctl with
    | run c =>
      cases c with
      | skip => exact .skip (ih _ _ _ _ _ h hl)
      | region id ops draw =>
        simp only [runT] at h
        have go : (if draw = true then (if E.calm f id = true then (drawT E M ops st).andThen fun st' => runT E M A f fn kk D n .nxt K st' false else .fail)
            else (opsT E M ops (List.range ops.size) st).andThen fun st' => runT E M A f fn kk D n .nxt K st' false : Tr U (Leaf U)).Runs l → RunsV call E f fn kk Z (.run (.region id ops draw)) K (toSt U st) r := by
          intro hg
          cases draw with
          | true =>
            simp only [if_true] at hg
            by_cases hc : E.calm f id = true
            · rw [if_pos hc, runs_andThen] at hg
              obtain ⟨st1, h1, h2⟩ := hg
              exact .draw hc (drawT_ok hU hM h1) (ih _ _ _ _ _ h2 hl)
            · rw [if_neg hc] at hg
              simp [Tr.Runs] at hg
          | false =>
            simp only [Bool.false_eq_true, if_false] at hg
            rw [runs_andThen] at hg
            obtain ⟨st1, h1, h2⟩ := hg
            exact .region (opsT_ok hU hM h1) (ih _ _ _ _ _ h2 hl)
        cases sk with
        | true => exact go h
        | false =>
          simp only at h
          split at h
          · exact go h
          · rename_i keep hA
            simp only [runs_andThen, Tr.Runs] at h
            obtain ⟨st1, ht, rfl⟩ := h
            obtain ⟨ids, hids⟩ := tidyT_ok ht
            exact .tidy hids hl
      | seq a b => exact .seq (ih _ _ _ _ _ h hl)
      | cond c a b =>
        simp only [runT] at h
        have hev : ev E (toSt U st).s c = toV U (evS E st.s c) := ev_toV E st.s c
        split at h
        · rename_i hc
          rw [hc] at hev
          exact .cond (t := true) hev (ih _ _ _ _ _ h hl)
        · rename_i hc
          rw [hc] at hev
          exact .cond (t := false) hev (ih _ _ _ _ _ h hl)
        · rename_i t hc
          rw [hc] at hev
          simp only [Tr.Runs] at h
          rcases h with ⟨rfl, h⟩ | ⟨rfl, h⟩
          · exact .cond (t := true) hev (ih _ _ _ _ _ h hl)
          · exact .cond (t := false) hev (ih _ _ _ _ _ h hl)
        · simp [Tr.Runs] at h
      | block id b => exact .block (ih _ _ _ _ _ h hl)
      | loop b => exact .loop (ih _ _ _ _ _ h hl)
      | exit id => exact .exit (ih _ _ _ _ _ h hl)
      | ret => exact .ret (ih _ _ _ _ _ h hl)
      | _ => simp [runT, Tr.Runs] at h
    | nxt =>
      cases K with
      | nil =>
        simp only [runT, runs_andThen, Tr.Runs] at h
        obtain ⟨v, h1, rfl⟩ := h
        have : r = (toV U v.1, toH U v.2) := hl
        rw [this]
        exact .finN (hD _ _ h1)
      | cons x K =>
        cases x with
        | seq c => exact .nseq (ih _ _ _ _ _ h hl)
        | blk i => exact .nblk (ih _ _ _ _ _ h hl)
        | loop b => exact .nloop (ih _ _ _ _ _ h hl)
    | exit id =>
      cases K with
      | nil => simp [runT, Tr.Runs] at h
      | cons x K =>
        cases x with
        | seq c => exact .eseq (ih _ _ _ _ _ h hl)
        | blk i =>
          simp only [runT] at h
          split at h
          · rename_i hi
            subst hi
            exact .eblk (ih _ _ _ _ _ h hl)
          · rename_i hi
            exact .epass hi (ih _ _ _ _ _ h hl)
        | loop b => exact .eloop (ih _ _ _ _ _ h hl)
    | ret =>
      cases K with
      | nil =>
        simp only [runT, runs_andThen, Tr.Runs] at h
        obtain ⟨v, h1, rfl⟩ := h
        have : r = (toV U v.1, toH U v.2) := hl
        rw [this]
        exact .finR (hD _ _ h1)
      | cons x K => exact .rany (ih _ _ _ _ _ h hl)

end

end Go.Proofs.YtkepnndakhpgoaaGreatDoor.Le

/-
  What a call that is given boxes sees and leaves, as values of Lean's types.
-/
namespace Go.Proofs.YtkepnndakhpgoaaGreatDoor.Le
set_option linter.unusedVariables false
set_option linter.unusedSimpArgs false

/-- A cell, or some: of a type of Lean; a slice of the whole of a row; a pointer to a variable; a function with variables. -/
inductive Pc where
  | v (t n : Nat) (agg : Bool)
  | own (e j : Nat)
  | ptr (j : Nat)
  | fn (f : FuncId) (a b : List Nat)
  | no
  | nul (ptr : Bool)
inductive Sp where
  | one (c : Pc)
  | agg (cs : List Pc)
inductive Pb where
  | var (e m : Nat) (p : Sp)
  | row (t : Nat) (fresh : Bool)
structure Shape where
  args : List Sp
  boxes : List Pb
abbrev Sp.cells : Sp → List Pc
  | .one c => [c]
  | .agg cs => cs

section
variable (U : Univ)

@[reducible] def PX : List Pc → Type
  | [] => Unit
  | .v t _ _ :: ps => U.Ty t × PX ps
  | _ :: ps => PX ps
@[reducible] def AX : List Sp → Type
  | [] => Unit
  | p :: ps => PX U p.cells × AX ps
@[reducible] def BX : List Pb → Type
  | [] => Unit
  | .var _ _ p :: bs => PX U p.cells × BX bs
  | .row t _ :: bs => List (U.Ty t) × BX bs
@[reducible] def Shape.X (s : Shape) : Type := AX U s.args × BX U s.boxes

variable {U}
def lensB : (bs : List Pb) → BX U bs → List Nat
  | [], _ => []
  | .var _ _ _ :: bs, x => 1 :: lensB bs x.2
  | .row _ _ :: bs, x => x.1.length :: lensB bs x.2
def ptrS (j : Nat) : SV U.Ty := .ptr j 0 0 1
def nulS : Bool → SV U.Ty
  | true => .lit (.pointer none)
  | false => .lit .nilFunc
def isNul : Bool → SV U.Ty → Bool
  | true, .lit (.pointer none) => true
  | false, .lit .nilFunc => true
  | _, _ => false
theorem isNul_ok {b : Bool} {c : SV U.Ty} (h : isNul b c = true) : c = nulS b := by
  unfold isNul at h
  split at h <;> first | rfl | cases h
def encP (ls : List Nat) : (ps : List Pc) → PX U ps → List (SV U.Ty)
  | [], _ => []
  | .v t _ _ :: ps, x => cellsS (U.encS t x.1) ++ encP ls ps x.2
  | .own _ j :: ps, x => .all j (ls.getD j 0) :: encP ls ps x
  | .ptr j :: ps, x => ptrS j :: encP ls ps x
  | .fn f a b :: ps, x => .fn f (a.map ptrS) (b.map ptrS) :: encP ls ps x
  | .no :: ps, x => .no :: encP ls ps x
  | .nul b :: ps, x => nulS b :: encP ls ps x
def encSp (ls : List Nat) : (p : Sp) → PX U p.cells → SV U.Ty
  | .one c, x => (encP ls [c] x).headD .und
  | .agg cs, x => .agg (encP ls cs x)
def encA (ls : List Nat) : (ps : List Sp) → AX U ps → List (SV U.Ty)
  | [], _ => []
  | p :: ps, x => encSp ls p x.1 :: encA ls ps x.2
def encB (ls : List Nat) : (bs : List Pb) → BX U bs → SHeap U
  | [], _ => []
  | .var e m p :: bs, x => .var e m (encSp ls p x.1) :: encB ls bs x.2
  | .row t fresh :: bs, x => .row t x.1 (if fresh then none else some x.1.length) :: encB ls bs x.2
def Shape.enc (s : Shape) (x : s.X U) : List (SV U.Ty) × SHeap U := (encA (lensB s.boxes x.2) s.args x.1, encB (lensB s.boxes x.2) s.boxes x.2)

/-! ### read back -/

def clean1 : SV U.Ty → Bool
  | .nil _ | .raw _ | .agg _ | .tup _ => false
  | _ => true
def isPtrs : List Nat → List (SV U.Ty) → Bool
  | [], [] => true
  | j :: js, .ptr i a b c :: xs => decide (i = j ∧ a = 0 ∧ b = 0 ∧ c = 1) && isPtrs js xs
  | _, _ => false
def lensS (H : SHeap U) : List Nat := H.map fun b => match b with | .row _ xs _ => xs.length | _ => 1
def decP (ls : List Nat) : (ps : List Pc) → List (SV U.Ty) → Option (PX U ps × List Bool)
  | [], cs => if cs.isEmpty then some ((), []) else none
  | .v t n true :: ps, cs => if (cs.take n).length = n ∧ (cs.take n).all clean1 = true then
      (match U.decS t (.agg (cs.take n)), decP ls ps (cs.drop n) with
       | some a, some r => some ((a, r.1), r.2)
       | _, _ => none) else none
  | .v t _ false :: ps, c :: cs => if clean1 c then
      (match U.decS t c, decP ls ps cs with
       | some a, some r => some ((a, r.1), r.2)
       | _, _ => none) else none
  | .own _ j :: ps, .all i n :: cs => if i = j then (decP ls ps cs).map fun r => (r.1, (ls.getD j 0 == n) :: r.2) else none
  | .ptr j :: ps, .ptr i a b c :: cs => if i = j ∧ a = 0 ∧ b = 0 ∧ c = 1 then decP ls ps cs else none
  | .fn f a b :: ps, .fn g a' b' :: cs => if g = f ∧ isPtrs a a' = true ∧ isPtrs b b' = true then decP ls ps cs else none
  | .no :: ps, .no :: cs => decP ls ps cs
  | .nul b :: ps, c :: cs => if isNul b c = true then decP ls ps cs else none
  | _ :: _, _ => none
def decSp (ls : List Nat) : (p : Sp) → SV U.Ty → Option (PX U p.cells × List Bool)
  | .one c, x => decP ls [c] [x]
  | .agg cs, .agg xs => decP ls cs xs
  | _, _ => none
def decA (ls : List Nat) : (ps : List Sp) → List (SV U.Ty) → Option (AX U ps × List Bool)
  | [], [] => some ((), [])
  | p :: ps, x :: xs => (match decSp ls p x, decA ls ps xs with
    | some a, some r => some ((a.1, r.1), a.2 ++ r.2)
    | _, _ => none)
  | _, _ => none
def decB (ls : List Nat) : (bs : List Pb) → SHeap U → Option (BX U bs × List Bool)
  | [], [] => some ((), [])
  | .var e m p :: bs, .var e' m' x :: H => if e' = e ∧ m' = m then
      (match decSp ls p x, decB ls bs H with
       | some a, some r => some ((a.1, r.1), a.2 ++ r.2)
       | _, _ => none) else none
  | .row t fresh :: bs, .row t' xs fl :: H => if h : t' = t then
      (match fresh, fl, decB ls bs H with
       | true, none, some r => some ((h ▸ xs, r.1), r.2)
       | false, some n, some r => some ((h ▸ xs, r.1), (n == xs.length) :: r.2)
       | _, _, _ => none) else none
  | _, _ => none
def Shape.dec (s : Shape) (as : List (SV U.Ty)) (H : SHeap U) : Option (s.X U × List Bool) :=
  match decA (lensS H) s.args as, decB (lensS H) s.boxes H with
  | some a, some b => some ((a.1, b.1), a.2 ++ b.2)
  | _, _ => none

/-! ### what is read is what is there -/

theorem clean1_retype {x : SV U.Ty} (h : clean1 x = true) (e : Nat) : retype1 e (toV U x) = toV U x := by
  cases x <;> simp_all [clean1, toV, retype1]
theorem clean1_cells {x : SV U.Ty} (h : clean1 x = true) : (toV U x).cells = [toV U x] := by
  cases x <;> first | rfl | (simp [clean1] at h)
theorem clean1_agg {x : SV U.Ty} (h : clean1 x = true) : ∀ cs, toV U x ≠ .agg cs := by
  intro cs hc
  cases x <;> first | (cases hc; done) | (simp [clean1] at h)
theorem clean_retype : ∀ {xs : List (SV U.Ty)}, xs.all clean1 = true → ∀ es, retypeL es (toVs U xs) = toVs U xs := by
  intro xs
  induction xs with
  | nil => intro _ es; cases es <;> rfl
  | cons x xs ih =>
    intro h es
    simp only [List.all_cons, Bool.and_eq_true] at h
    cases es with
    | nil => rfl
    | cons e es => simp only [toVs, retypeL, clean1_retype h.1, ih h.2]

theorem toVs_append (xs ys : List (SV U.Ty)) : toVs U (xs ++ ys) = toVs U xs ++ toVs U ys := by simp [toVs_map]

theorem isPtrs_ok : ∀ {js : List Nat} {xs : List (SV U.Ty)}, isPtrs js xs = true → xs = js.map ptrS := by
  intro js
  induction js with
  | nil => intro xs h; cases xs with
    | nil => rfl
    | cons => simp [isPtrs] at h
  | cons j js ih =>
    intro xs h
    cases xs with
    | nil => simp [isPtrs] at h
    | cons x xs =>
      cases x <;> simp [isPtrs] at h
      obtain ⟨⟨rfl, rfl, rfl, rfl⟩, h2⟩ := h
      rw [ih h2]
      rfl

theorem decP_ok {E : Env} (hU : UnivOK U E) (ls : List Nat) : ∀ (ps : List Pc) {cs : List (SV U.Ty)} {r : PX U ps × List Bool}, decP ls ps cs = some r → (∀ b ∈ r.2, b = true) → toVs U cs = toVs U (encP ls ps r.1) := by
  intro ps
  induction ps with
  | nil =>
    intro cs r h _
    simp only [decP] at h
    split at h
    · rename_i hc; cases cs with
      | nil => rfl
      | cons => simp at hc
    · cases h
  | cons p ps ih =>
    intro cs r h hb
    cases p with
    | v t n ag =>
      cases ag with
      | true =>
        simp only [decP] at h
        split at h
        · rename_i hc
          split at h
          · rename_i a r' h1 h2
            simp only [Option.some.injEq] at h
            subst h
            have e := hU.dec t _ a h1
            simp only [toV, retype] at e
            rw [clean_retype hc.2] at e
            have ec := hU.cells t a
            rw [← e] at ec
            simp only [V.cells] at ec
            simp only [encP, toVs_append, ← ec, ← ih h2 hb]
            rw [← toVs_append, List.take_append_drop]
          · cases h
        · cases h
      | false =>
        cases cs with
        | nil => simp [decP] at h
        | cons c cs =>
          simp only [decP] at h
          split at h
          · rename_i hc
            split at h
            · rename_i a r' h1 h2
              simp only [Option.some.injEq] at h
              subst h
              have e := hU.dec t _ a h1
              have hr : ∀ es, retype es (toV U c) = toV U c := by
                intro es
                unfold retype
                split
                · rename_i cs' hcs
                  exact absurd hcs (clean1_agg hc cs')
                · exact clean1_retype hc _
              rw [hr] at e
              have ec := hU.cells t a
              rw [← e] at ec
              rw [clean1_cells hc] at ec
              simp only [encP, toVs_append, ← ec, ← ih h2 hb]
              rfl
            · cases h
          · cases h
    | own e j =>
      cases cs with
      | nil => simp [decP] at h
      | cons c cs =>
        cases c <;> simp only [decP] at h <;> try (cases h; done)
        split at h
        · rename_i hij
          subst hij
          simp only [Option.map_eq_some_iff] at h
          obtain ⟨r', h2, rfl⟩ := h
          have hn := hb _ (List.mem_cons_self ..)
          simp only [beq_iff_eq] at hn
          simp only [encP, toVs, toV, hn, ih h2 (fun b hh => hb b (by simp [hh]))]
        · cases h
    | ptr j =>
      cases cs with
      | nil => simp [decP] at h
      | cons c cs =>
        cases c <;> simp only [decP] at h <;> try (cases h; done)
        split at h
        · rename_i hij
          obtain ⟨rfl, rfl, rfl, rfl⟩ := hij
          simp only [encP, toVs, ptrS, ih h hb]
        · cases h
    | fn f a b =>
      cases cs with
      | nil => simp [decP] at h
      | cons c cs =>
        cases c <;> simp only [decP] at h <;> try (cases h; done)
        split at h
        · rename_i hij
          obtain ⟨rfl, h1, h2⟩ := hij
          rw [isPtrs_ok h1, isPtrs_ok h2]
          simp only [encP, toVs, ih h hb]
        · cases h
    | no =>
      cases cs with
      | nil => simp [decP] at h
      | cons c cs =>
        cases c <;> simp only [decP] at h <;> try (cases h; done)
        simp only [encP, toVs, ih h hb]
    | nul b =>
      cases cs with
      | nil => simp [decP] at h
      | cons c cs =>
        simp only [decP] at h
        split at h
        · rename_i hn
          rw [isNul_ok hn]
          simp only [encP, toVs, ih h hb]
        · cases h

theorem decSp_ok {E : Env} (hU : UnivOK U E) (ls : List Nat) {p : Sp} {x : SV U.Ty} {r : PX U p.cells × List Bool} (h : decSp ls p x = some r) (hb : ∀ b ∈ r.2, b = true) : toV U x = toV U (encSp ls p r.1) := by
  cases p with
  | one c =>
    have := decP_ok hU ls [c] h hb
    simp only [toVs] at this
    cases hp : encP ls [c] r.1 with
    | nil => rw [hp] at this; cases this
    | cons y ys =>
      rw [hp] at this
      simp only [toVs, List.cons.injEq] at this
      simp only [encSp]
      rw [hp]
      exact this.1
  | agg cs =>
    cases x <;> simp only [decSp] at h <;> try (cases h; done)
    have := decP_ok hU ls cs h hb
    simp only [encSp, toV, this]

theorem decA_ok {E : Env} (hU : UnivOK U E) (ls : List Nat) : ∀ (ps : List Sp) {cs : List (SV U.Ty)} {r : AX U ps × List Bool}, decA ls ps cs = some r → (∀ b ∈ r.2, b = true) → toVs U cs = toVs U (encA ls ps r.1) := by
  intro ps
  induction ps with
  | nil =>
    intro cs r h _
    cases cs with
    | nil => rfl
    | cons => simp [decA] at h
  | cons p ps ih =>
    intro cs r h hb
    cases cs with
    | nil => simp [decA] at h
    | cons c cs =>
      simp only [decA] at h
      split at h
      · rename_i a r' h1 h2
        simp only [Option.some.injEq] at h
        subst h
        simp only [encA, toVs, decSp_ok hU ls h1 (fun b hh => hb b (by simp [hh])), ih h2 (fun b hh => hb b (by simp [hh]))]
      · cases h

theorem decB_ok {E : Env} (hU : UnivOK U E) (ls : List Nat) : ∀ (bs : List Pb) {H : SHeap U} {r : BX U bs × List Bool}, decB ls bs H = some r → (∀ b ∈ r.2, b = true) → toH U H = toH U (encB ls bs r.1) ∧ lensB bs r.1 = lensS H := by
  intro bs
  induction bs with
  | nil =>
    intro H r h _
    cases H with
    | nil => exact ⟨rfl, rfl⟩
    | cons => simp [decB] at h
  | cons b bs ih =>
    intro H r h hb
    cases H with
    | nil => cases b <;> simp [decB] at h
    | cons x H =>
      cases b with
      | var e m p =>
        cases x <;> simp only [decB] at h <;> try (cases h; done)
        split at h
        · rename_i he
          obtain ⟨rfl, rfl⟩ := he
          split at h
          · rename_i a r' h1 h2
            simp only [Option.some.injEq] at h
            subst h
            obtain ⟨e1, e2⟩ := ih h2 (fun b hh => hb b (by simp [hh]))
            have e3 := decSp_ok hU ls h1 (fun b hh => hb b (by simp [hh]))
            refine ⟨?_, ?_⟩
            · simp only [toH, encB, List.map_cons, toBox, e3]
              exact congrArg _ e1
            · simp only [lensB, lensS, List.map_cons, e2]
          · cases h
        · cases h
      | row t fresh =>
        cases x <;> simp only [decB] at h <;> try (cases h; done)
        rename_i t' xs fl
        split at h
        · rename_i ht
          subst ht
          split at h
          · rename_i r' h2
            simp only [Option.some.injEq] at h
            subst h
            obtain ⟨e1, e2⟩ := ih h2 hb
            refine ⟨?_, ?_⟩
            · simp only [toH, encB, List.map_cons, if_true]
              exact congrArg _ e1
            · simp only [lensB, lensS, List.map_cons, e2]
          · rename_i n r' h2
            simp only [Option.some.injEq] at h
            subst h
            obtain ⟨e1, e2⟩ := ih h2 (fun b hh => hb b (by simp [hh]))
            have hn := hb _ (List.mem_cons_self ..)
            simp only [beq_iff_eq] at hn
            refine ⟨?_, ?_⟩
            · simp only [toH, encB, List.map_cons, Bool.false_eq_true, if_false, toBox, hn]
              exact congrArg _ e1
            · simp only [lensB, lensS, List.map_cons, e2]
          · cases h
        · cases h

theorem Shape.dec_ok {E : Env} (hU : UnivOK U E) {s : Shape} {as : List (SV U.Ty)} {H : SHeap U} {r : s.X U × List Bool} (h : s.dec as H = some r) (hb : ∀ b ∈ r.2, b = true) : toVs U as = toVs U (s.enc r.1).1 ∧ toH U H = toH U (s.enc r.1).2 := by
  unfold Shape.dec at h
  split at h
  · rename_i a b h1 h2
    simp only [Option.some.injEq] at h
    subst h
    obtain ⟨e1, e2⟩ := decB_ok hU _ _ h2 (fun b hh => hb b (by simp [hh]))
    have e3 := decA_ok hU _ _ h1 (fun b hh => hb b (by simp [hh]))
    simp only [Shape.enc, e2]
    exact ⟨e3, e1⟩
  · cases h

/-! ### one value alone is shown so -/

variable (U)
def PcOK : Pc → Prop
  | .v t n true => t ∈ U.keys ∧ ∀ a, ∃ cs, U.encS t a = .agg cs ∧ cs.length = n
  | .v t n false => t ∈ U.keys ∧ ∀ a, cellsS (U.encS t a) = [U.encS t a]
  | _ => True
def PsOK : List Pc → Prop
  | [] => True
  | p :: ps => PcOK U p ∧ PsOK ps
def SpOK : Sp → Prop
  | .one (.v _ _ true) => False
  | .one c => PcOK U c
  | .agg cs => PsOK U cs
def AsOK : List Sp → Prop
  | [] => True
  | p :: ps => SpOK U p ∧ AsOK ps
def BsOK : List Pb → Prop
  | [] => True
  | .var _ _ p :: bs => SpOK U p ∧ BsOK bs
  | .row t _ :: bs => t ∈ U.keys ∧ BsOK bs
def Shape.OK (s : Shape) : Prop := AsOK U s.args ∧ BsOK U s.boxes
variable {U}

theorem encP_inj {E : Env} (hU : UnivOK U E) {ls ls' : List Nat} : ∀ {ps : List Pc} {x y : PX U ps}, PsOK U ps → toVs U (encP ls ps x) = toVs U (encP ls' ps y) → x = y := by
  intro ps
  induction ps with
  | nil => intro x y _ _; rfl
  | cons p ps ih =>
    intro x y hk h
    obtain ⟨hp, hk⟩ := hk
    cases p with
    | v t n ag =>
      obtain ⟨a, x'⟩ := x
      obtain ⟨b, y'⟩ := y
      simp only [encP, toVs_append] at h
      have key : toVs U (cellsS (U.encS t a)) = toVs U (cellsS (U.encS t b)) ∧ toVs U (encP ls ps x') = toVs U (encP ls' ps y') ∧ U.enc t a = U.enc t b ∧ t ∈ U.keys := by
        cases ag with
        | true =>
          obtain ⟨hm, hl⟩ := hp
          obtain ⟨ca, ea, la⟩ := hl a
          obtain ⟨cb, eb, lb⟩ := hl b
          have := List.append_inj h (by rw [length_toVs, length_toVs, ea, eb]; simp only [cellsS, la, lb])
          refine ⟨this.1, this.2, ?_, hm⟩
          rw [← hU.encS, ← hU.encS, ea, eb]
          have h1 := this.1
          rw [ea, eb] at h1
          simp only [cellsS] at h1
          simp only [toV, h1]
        | false =>
          obtain ⟨hm, hl⟩ := hp
          have := List.append_inj h (by rw [length_toVs, length_toVs, hl a, hl b]; rfl)
          refine ⟨this.1, this.2, ?_, hm⟩
          have h1 := this.1
          rw [hl a, hl b] at h1
          simp only [toVs, List.cons.injEq, and_true, hU.encS] at h1
          exact h1
      obtain ⟨_, h2, h3, hm⟩ := key
      have ha := hU.inj t hm a b h3
      subst ha
      rw [ih hk h2]
    | own e j =>
      simp only [encP, toVs, List.cons.injEq] at h
      exact ih hk h.2
    | ptr j =>
      simp only [encP, toVs, List.cons.injEq] at h
      exact ih hk h.2
    | fn f a b =>
      simp only [encP, toVs, List.cons.injEq] at h
      exact ih hk h.2
    | no =>
      simp only [encP, toVs, List.cons.injEq] at h
      exact ih hk h.2
    | nul b =>
      simp only [encP, toVs, List.cons.injEq] at h
      exact ih hk h.2

theorem encSp_inj {E : Env} (hU : UnivOK U E) {ls ls' : List Nat} {p : Sp} {x y : PX U p.cells} (hk : SpOK U p) (h : toV U (encSp ls p x) = toV U (encSp ls' p y)) : x = y := by
  cases p with
  | one c =>
    cases c with
    | v t n ag =>
      cases ag with
      | true => exact hk.elim
      | false =>
        obtain ⟨a, x'⟩ := x
        obtain ⟨b, y'⟩ := y
        have hk' : PcOK U (.v t n false) := hk
        refine encP_inj hU (ps := [.v t n false]) ⟨hk', trivial⟩ (ls := ls) (ls' := ls') ?_
        simp only [encSp, encP, hk'.2, List.append_nil, List.headD_cons] at h
        simp only [encP, hk'.2, List.append_nil, toVs, h]
    | own e j => exact encP_inj hU (ps := [.own e j]) ⟨trivial, trivial⟩ (ls := ls) (ls' := ls') (by simp only [encSp, encP, List.headD_cons] at h; simp only [encP, toVs, h])
    | ptr j => rfl
    | fn f a b => rfl
    | no => rfl
    | nul b => rfl
  | agg cs =>
    simp only [encSp, toV, V.agg.injEq] at h
    exact encP_inj hU hk h

theorem encA_inj {E : Env} (hU : UnivOK U E) {ls ls' : List Nat} : ∀ {ps : List Sp} {x y : AX U ps}, AsOK U ps → toVs U (encA ls ps x) = toVs U (encA ls' ps y) → x = y := by
  intro ps
  induction ps with
  | nil => intro x y _ _; rfl
  | cons p ps ih =>
    intro x y hk h
    obtain ⟨a, x'⟩ := x
    obtain ⟨b, y'⟩ := y
    simp only [encA, toVs, List.cons.injEq] at h
    rw [encSp_inj hU hk.1 h.1, ih hk.2 h.2]

theorem map_enc_inj {E : Env} (hU : UnivOK U E) {t : Nat} (ht : t ∈ U.keys) : ∀ {xs ys : List (U.Ty t)}, xs.map (U.enc t) = ys.map (U.enc t) → xs = ys := by
  intro xs
  induction xs with
  | nil => intro ys h; cases ys with
    | nil => rfl
    | cons => cases h
  | cons x xs ih =>
    intro ys h
    cases ys with
    | nil => cases h
    | cons y ys =>
      simp only [List.map_cons, List.cons.injEq] at h
      rw [hU.inj t ht x y h.1, ih h.2]

theorem encB_inj {E : Env} (hU : UnivOK U E) {ls ls' : List Nat} : ∀ {bs : List Pb} {x y : BX U bs}, BsOK U bs → toH U (encB ls bs x) = toH U (encB ls' bs y) → x = y := by
  intro bs
  induction bs with
  | nil => intro x y _ _; rfl
  | cons b bs ih =>
    intro x y hk h
    cases b with
    | var e m p =>
      obtain ⟨a, x'⟩ := x
      obtain ⟨b, y'⟩ := y
      simp only [encB, toH, List.map_cons, List.cons.injEq, toBox, newBox, Box.mk.injEq, true_and, and_true] at h
      rw [encSp_inj hU hk.1 h.1, ih hk.2 h.2]
    | row t fresh =>
      obtain ⟨a, x'⟩ := x
      obtain ⟨b, y'⟩ := y
      simp only [encB, toH, List.map_cons, List.cons.injEq, toBox, Box.mk.injEq, true_and] at h
      rw [map_enc_inj hU hk.1 h.1.1, ih hk.2 h.2]

theorem Shape.enc_inj {E : Env} (hU : UnivOK U E) {s : Shape} (hk : s.OK U) {x y : s.X U} (h1 : toVs U (s.enc x).1 = toVs U (s.enc y).1) (h2 : toH U (s.enc x).2 = toH U (s.enc y).2) : x = y := by
  obtain ⟨a, b⟩ := x
  obtain ⟨a', b'⟩ := y
  have e2 := encB_inj hU hk.2 h2
  simp only at e2
  subst e2
  have e1 := encA_inj hU hk.1 h1
  simp only at e1
  rw [e1]

/-! ### such a function -/

variable (U)
structure HMod where
  fa : List (List Fk)
  fb : List Bf
  sin : Shape
  sout : Shape
  one : Bool
  ky : Nat
  toX : U.Ty ky → sout.X U
  fn : sin.X U → Option (U.Ty ky)
  ok : sin.OK U
variable {U}

def HMod.out (m : HMod U) (y : U.Ty m.ky) : SV U.Ty × SHeap U := ((if m.one then (m.sout.enc (m.toX y)).1.headD .und else .tup (m.sout.enc (m.toX y)).1), (m.sout.enc (m.toX y)).2)

open Classical in
noncomputable def HMod.spec (m : HMod U) : HSpec where
  fa := m.fa
  fb := m.fb
  run := fun as H0 => if h : ∃ x : m.sin.X U, toVs U (m.sin.enc x).1 = as ∧ toH U (m.sin.enc x).2 = H0 then (m.fn (Classical.choose h)).map fun y => (toV U (m.out y).1, toH U (m.out y).2) else none

theorem HMod.spec_run {E : Env} (hU : UnivOK U E) (m : HMod U) (x : m.sin.X U) : m.spec.run (toVs U (m.sin.enc x).1) (toH U (m.sin.enc x).2) = (m.fn x).map fun y => (toV U (m.out y).1, toH U (m.out y).2) := by
  have h : ∃ y : m.sin.X U, toVs U (m.sin.enc y).1 = toVs U (m.sin.enc x).1 ∧ toH U (m.sin.enc y).2 = toH U (m.sin.enc x).2 := ⟨x, rfl, rfl⟩
  simp only [HMod.spec, dif_pos h]
  rw [Shape.enc_inj hU m.ok (Classical.choose_spec h).1 (Classical.choose_spec h).2]

def callHT (m : HMod U) (as : List (SV U.Ty)) (H : SHeap U) : Tr U (SV U.Ty × SHeap U) :=
  (packS m.fa m.fb 0 as H).andThen fun r => match m.sin.dec (renFSs (r.1.idxOf ·) r.2.1) (subHS r.2.2 r.1) with
    | some x => (match x.2 with
      | [] => .bind m.ky (m.fn x.1) fun y => .when (r.1.length ≤ (m.out y).2.length) (.leaf (renFS (backN r.1 r.2.2.length) (m.out y).1, putBackS r.2.2 r.1 (m.out y).2))
      | c :: cs => .chk (andAll (c :: cs)) (.bind m.ky (m.fn x.1) fun y => .when (r.1.length ≤ (m.out y).2.length) (.leaf (renFS (backN r.1 r.2.2.length) (m.out y).1, putBackS r.2.2 r.1 (m.out y).2))))
    | none => .fail

theorem callHT_ok {E : Env} (hU : UnivOK U E) {m : HMod U} {as : List (SV U.Ty)} {H : SHeap U} {r : SV U.Ty × SHeap U} (h : (callHT m as H).Runs r) : callH m.spec (toVs U as) (toH U H) = some (toV U r.1, toH U r.2) := by
  simp only [callHT, runs_andThen] at h
  obtain ⟨p, hp, h⟩ := h
  have hp' := packS_ok hp
  split at h
  · rename_i x hx
    have key : (∀ b ∈ x.2, b = true) ∧ ∃ y, m.fn x.1 = some y ∧ p.1.length ≤ (m.out y).2.length ∧ r = (renFS (backN p.1 p.2.2.length) (m.out y).1, putBackS p.2.2 p.1 (m.out y).2) := by
      split at h
      · rename_i hnil
        simp only [Tr.Runs, runs_when] at h
        obtain ⟨y, h1, h2, h3⟩ := h
        exact ⟨by rw [hnil]; intro b hb; simp at hb, y, h1, h2, h3.symm⟩
      · rename_i c cs hcs
        simp only [Tr.Runs, runs_when] at h
        obtain ⟨hc, y, h1, h2, h3⟩ := h
        exact ⟨by rw [hcs]; exact andAll_mem hc, y, h1, h2, h3.symm⟩
    obtain ⟨hb, y, h1, h2, rfl⟩ := key
    obtain ⟨e1, e2⟩ := Shape.dec_ok hU hx hb
    rw [renFs_toV] at e1
    rw [subHS_toH] at e2
    unfold callH
    simp only [show m.spec.fa = m.fa from rfl, show m.spec.fb = m.fb from rfl, hp', e1, e2, HMod.spec_run hU, h1, Option.map_some, toH_length]
    rw [if_pos h2, renF_toV, putBackS_toH]
  · simp [Tr.Runs] at h

end

end Go.Proofs.YtkepnndakhpgoaaGreatDoor.Le

/-
  Functions of a program as functions of Lean: how what is proved of a tree becomes what a call comes to.
-/
namespace Go.Proofs.YtkepnndakhpgoaaGreatDoor.Le
set_option linter.unusedVariables false
open Go.RowKit (Below)

section
variable {U : Univ}

/-! ### arguments, models -/

def Args (U : Univ) : List Nat → Type
  | [] => Unit
  | t :: ts => U.Ty t × Args U ts

def encArgs : (ts : List Nat) → Args U ts → List V
  | [], _ => []
  | t :: ts, x => U.enc t x.1 :: encArgs ts x.2

def decArgs : (ts : List Nat) → List (SV U.Ty) → Option (Args U ts)
  | [], [] => some ()
  | t :: ts, v :: vs => match U.decS t v, decArgs ts vs with | some a, some as => some (a, as) | _, _ => none
  | _, _ => none

structure Mod (U : Univ) where
  ts : List Nat
  rt : Nat
  fn : Args U ts → Option (U.Ty rt)
  ok : ∀ t ∈ ts, t ∈ U.keys

def isPtrS : SV U.Ty → Bool
  | .ptr _ _ _ _ => true
  | .raw v => isPtrV v
  | _ => false
def showPS (H : SHeap U) : SV U.Ty → Tr U (SV U.Ty)
  | .ptr id i off tot => if i = 0 ∧ off = 0 ∧ tot = 1 then (match H[id]? with
      | some (.var _ n (.agg cs)) => .leaf (.raw (.ept n [.agg ((toVs U cs).map maskC)] 0 0))
      | _ => .fail) else .fail
  | .raw _ => .fail
  | v => frzS H v
def showAllS (H : SHeap U) : List (SV U.Ty) → Tr U (List (SV U.Ty))
  | [] => .leaf []
  | v :: vs => (showPS H v).andThen fun w => (showAllS H vs).andThen fun ws => .leaf (w :: ws)
def isLitS : SV U.Ty → Bool
  | .lit _ | .si _ _ | .sb _ | .ss _ => true
  | _ => false
def flat1S : SV U.Ty → Bool
  | .lit _ | .si _ _ | .sb _ | .ss _ => true
  | .agg cs => cs.all isLitS
  | _ => false
def flatS : SV U.Ty → Bool
  | .tup vs => vs.all flat1S
  | v => flat1S v

theorem isPtrS_ok (x : SV U.Ty) : isPtrV (toV U x) = isPtrS x := by
  cases x <;> simp [isPtrS, isPtrV, toV]
theorem isPtrs_any (xs : List (SV U.Ty)) : (toVs U xs).any isPtrV = xs.any isPtrS := by
  induction xs with
  | nil => rfl
  | cons x xs ih => simp only [toVs, List.any_cons, ih, isPtrS_ok]
theorem isLitS_ok (x : SV U.Ty) (h : isLitS x = true) : isLitV (toV U x) = true := by
  cases x <;> simp_all [isLitS, isLitV, toV]
theorem isLitS_all (xs : List (SV U.Ty)) (h : xs.all isLitS = true) : (toVs U xs).all isLitV = true := by
  induction xs with
  | nil => rfl
  | cons x xs ih =>
    simp only [List.all_cons, Bool.and_eq_true] at h
    simp only [toVs, List.all_cons, Bool.and_eq_true]
    exact ⟨isLitS_ok x h.1, ih h.2⟩
theorem flat1S_ok (x : SV U.Ty) (h : flat1S x = true) : flat1 (toV U x) = true := by
  cases x <;> first | (simp [flat1S] at h; done) | (simp [flat1, toV]; done) | skip
  rename_i cs
  simp only [toV, flat1]
  exact isLitS_all cs h
theorem flat1S_all (xs : List (SV U.Ty)) (h : xs.all flat1S = true) : (toVs U xs).all flat1 = true := by
  induction xs with
  | nil => rfl
  | cons x xs ih =>
    simp only [List.all_cons, Bool.and_eq_true] at h
    simp only [toVs, List.all_cons, Bool.and_eq_true]
    exact ⟨flat1S_ok x h.1, ih h.2⟩
theorem flatS_ok (x : SV U.Ty) (h : flatS x = true) : flatV (toV U x) = true := by
  cases x <;> first | (simp [flatS, flat1S] at h; done) | (simp [flatV, flat1, toV]; done) | skip
  · rename_i cs
    simp only [toV, flatV, flat1]
    exact isLitS_all cs h
  · rename_i vs
    simp only [toV, flatV]
    exact flat1S_all vs h
theorem showPS_ok {H : SHeap U} {x y : SV U.Ty} (h : (showPS H x).Runs y) : showP (toH U H) (toV U x) = some (toV U y) := by
  unfold showPS at h
  split at h
  · rename_i id i off tot
    split at h
    · rename_i hz
      obtain ⟨rfl, rfl, rfl⟩ := hz
      split at h
      · rename_i e n cs hb
        simp only [Tr.Runs] at h
        subst h
        simp only [toV, showP, and_self, if_true, boxAt, toH_get, hb, Option.map_some, toBox, newBox]
        simp
      · simp [Tr.Runs] at h
    · simp [Tr.Runs] at h
  · simp [Tr.Runs] at h
  · rename_i hn1 hn2
    unfold showP
    split
    · rename_i id i off tot hv
      exfalso
      cases x <;> simp [toV] at hv
      · exact hn1 _ _ _ _ rfl
      · exact hn2 _ rfl
    · exact frzS_ok h
theorem showAllS_ok {H : SHeap U} : ∀ {xs ys : List (SV U.Ty)}, (showAllS H xs).Runs ys → showAll (toH U H) (toVs U xs) = some (toVs U ys) := by
  intro xs
  induction xs with
  | nil => intro ys h; simp only [showAllS, Tr.Runs] at h; subst h; rfl
  | cons x xs ih =>
    intro ys h
    simp only [showAllS, runs_andThen, Tr.Runs] at h
    obtain ⟨w, h1, ws, h2, rfl⟩ := h
    simp only [toVs, showAll, showPS_ok h1, ih h2]

/-- Whether a function is given no boxes. -/
def freeM (hmods : FuncId → List FuncId → Option (HMod U)) (g : FuncId) : Bool := match hmods g [] with | some m => m.fb.isEmpty | none => false

def mdlOf (mods : FuncId → Option (Mod U)) (hmods : FuncId → List FuncId → Option (HMod U)) : Mdl U := fun g as H =>
  match mods g with
  | some m => if as.any isPtrS then (showAllS H as).andThen fun as' => (match decArgs m.ts as' with
      | some x => .bind m.rt (m.fn x) fun r => .when (flatS (U.encS m.rt r) = true ∧ (as.flatMap idsAS).isEmpty = true) (.leaf (U.encS m.rt r, H))
      | none => .fail)
    else (frzAllS H as).andThen fun as' => (match decArgs m.ts as' with
    | some x => .bind m.rt (m.fn x) fun r => .leaf (U.encS m.rt r, bumpS H (as.flatMap idsAS))
    | none => .fail)
  | none => match hmods g (if freeM hmods g then [] else fnKeyS as) with
    | some m => callHT m as H
    | none => .fail

noncomputable def envH (hmods : FuncId → List FuncId → Option (HMod U)) : FuncId → List FuncId → Option HSpec := fun g k => (hmods g k).map HMod.spec

open Classical in
noncomputable def envOf (mods : FuncId → Option (Mod U)) : FuncId → Option (List V → Option V) := fun g =>
  match mods g with
  | some m => some fun as => if h : ∃ x : Args U m.ts, encArgs m.ts x = as then (m.fn (Classical.choose h)).map (U.enc m.rt) else none
  | none => none

theorem decArgs_ok {E : Env} (hU : UnivOK U E) : ∀ {ts : List Nat} {vs : List (SV U.Ty)} {x : Args U ts}, decArgs ts vs = some x → retypeAll E.rows ts (toVs U vs) = encArgs ts x := by
  intro ts
  induction ts with
  | nil =>
    intro vs x h
    cases vs with
    | nil => rfl
    | cons => simp [decArgs] at h
  | cons t ts ih =>
    intro vs x h
    cases vs with
    | nil => simp [decArgs] at h
    | cons v vs =>
      simp only [decArgs] at h
      split at h
      · rename_i a as h1 h2
        cases h
        simp only [toVs, retypeAll, encArgs, hU.dec _ _ _ h1, ih h2]
      · cases h

theorem encArgs_inj {E : Env} (hU : UnivOK U E) : ∀ {ts : List Nat} {x y : Args U ts}, (∀ t ∈ ts, t ∈ U.keys) → encArgs ts x = encArgs ts y → x = y := by
  intro ts
  induction ts with
  | nil => intro x y _ _; rfl
  | cons t ts ih =>
    intro x y hk h
    obtain ⟨x1, x2⟩ := x
    obtain ⟨y1, y2⟩ := y
    simp only [encArgs, List.cons.injEq] at h
    rw [hU.inj t (hk t (by simp)) _ _ h.1, ih (fun t' ht' => hk t' (by simp [ht'])) h.2]

theorem encArgs_noRef {E : Env} (hU : UnivOK U E) : ∀ {ts : List Nat} (x : Args U ts), noRefs (encArgs ts x) = true := by
  intro ts
  induction ts with
  | nil => intro x; rfl
  | cons t ts ih => intro x; simp [encArgs, noRefs, hU.nr, ih]

theorem envOf_at {E : Env} (hU : UnivOK U E) {mods : FuncId → Option (Mod U)} {g : FuncId} {m : Mod U} (hm : mods g = some m) {F : List V → Option V} (hF : envOf mods g = some F) (x : Args U m.ts) : F (encArgs m.ts x) = (m.fn x).map (U.enc m.rt) := by
  unfold envOf at hF
  simp only [hm, Option.some.injEq] at hF
  subst hF
  have h : ∃ y : Args U m.ts, encArgs m.ts y = encArgs m.ts x := ⟨x, rfl⟩
  simp only [dif_pos h]
  rw [encArgs_inj hU m.ok (Classical.choose_spec h)]

theorem mdlOf_ok {E : Env} (hU : UnivOK U E) {mods : FuncId → Option (Mod U)} {hmods : FuncId → List FuncId → Option (HMod U)} (henv : E.env = envOf mods) (hhm : E.hm = envH hmods) (hpu : ∀ g, E.pure g = false) (hpar : ∀ g m, mods g = some m → E.par g = m.ts)
    (hown : ∀ g, E.own g = none) (n : Nat) : MdlOK U (mdlOf mods hmods) (callD E (n + 1)) := by
  intro g as H v H' h
  unfold mdlOf at h
  cases hm : mods g with
  | none =>
    simp only [hm] at h
    have hne : E.env g = none := by rw [henv]; unfold envOf; simp [hm]
    split at h
    · rename_i m hmm
      have := callHT_ok hU h
      unfold callD
      simp only [hne, hpu g, Bool.false_eq_true, if_false]
      have hfr : freeF E g = freeM hmods g := by
        unfold freeF freeM
        rw [hne, hpu g, hhm]
        simp only [envH]
        cases hmods g [] <;> rfl
      have hk : E.hm g (if freeF E g then [] else fnKey (toVs U as)) = some m.spec := by rw [hfr, hhm, fnKeyS_toV]; simp only [envH, hmm, Option.map_some]
      simp only [hk, this]
    · simp [Tr.Runs] at h
  | some m =>
    simp only [hm] at h
    by_cases hq : as.any isPtrS = true
    · rw [if_pos hq] at h
      simp only [runs_andThen] at h
      obtain ⟨as', h1, h⟩ := h
      split at h
      · rename_i x hx
        simp only [Tr.Runs, runs_when, Prod.mk.injEq] at h
        obtain ⟨r, hr, ⟨hfl, hids⟩, rfl, rfl⟩ := h
        have hF : ∃ F, E.env g = some F := by rw [henv]; unfold envOf; simp [hm]
        obtain ⟨F, hF⟩ := hF
        have hat := envOf_at hU hm (by rw [← henv]; exact hF) x
        have hfl' := flatS_ok _ hfl
        rw [hU.encS] at hfl'
        have hids' : (toVs U as).flatMap idsA = [] := by rw [idsAs_toV]; simpa using hids
        unfold callD
        simp only [hF]
        rw [if_pos (by rw [isPtrs_any]; exact hq), showAllS_ok h1]
        simp only [hown g, hpar g m hm, decArgs_ok hU hx, hat, hr, Option.map_some]
        rw [if_pos hfl', hids', hU.encS]
        rfl
      · simp [Tr.Runs] at h
    rw [if_neg hq] at h
    simp only [runs_andThen] at h
    obtain ⟨as', h1, h⟩ := h
    split at h
    · rename_i x hx
      simp only [Tr.Runs, Prod.mk.injEq] at h
      obtain ⟨r, hr, rfl, rfl⟩ := h
      have hF : ∃ F, E.env g = some F := by rw [henv]; unfold envOf; simp [hm]
      obtain ⟨F, hF⟩ := hF
      have hat := envOf_at hU hm (by rw [← henv]; exact hF) x
      unfold callD
      simp only [hF]
      rw [if_neg (by rw [isPtrs_any]; exact hq)]
      simp only [frzAllS_ok h1, hown g, hpar g m hm, decArgs_ok hU hx, hat, hr, Option.map_some, idsAs_toV, bumpS_ok H _ (frzAllS_rows h1), hU.encS]
    · simp [Tr.Runs] at h

/-! ### what a call comes to -/

/-- What is known of a function. -/
structure FnOK (P : Program) (E : Env) (g : FuncId) (m : Mod U) : Prop where
  entered : Entered P g
  pure : ∀ x a, m.fn x = some a → PureFn P E g (encArgs m.ts x) (U.enc m.rt a)

theorem FnOK.glob {P : Program} {E E' : Env} (h : E'.glob = E.glob) {g : FuncId} {m : Mod U} (hf : FnOK P E g m) : FnOK P E' g m := by
  refine ⟨hf.entered, fun x a hx fz w vs hc hg hr => hf.pure x a hx fz w vs hc ?_ hr⟩
  intro g r hh
  exact hg g r (by rw [h]; exact hh)

/-- What is known of a function that is given boxes. -/
structure HFnOK (P : Program) (E : Env) (g : FuncId) (m : HMod U) : Prop where
  entered : Entered P g
  heap : ∀ x y, m.fn x = some y → HeapFn P E g (toVs U (m.sin.enc x).1) (toH U (m.sin.enc x).2) (toV U (m.out y).1) (toH U (m.out y).2)

theorem HFnOK.glob {P : Program} {E E' : Env} (h : E'.glob = E.glob) {g : FuncId} {m : HMod U} (hf : HFnOK P E g m) : HFnOK P E' g m := by
  refine ⟨hf.entered, fun x y hx B w0 σ w vs hi hg hr => hf.heap x y hx B w0 σ w vs hi ?_ hr⟩
  intro g r hh
  exact hg g r (by rw [h]; exact hh)

theorem envFns_of {P : Program} {E : Env} (hU : UnivOK U E) {mods : FuncId → Option (Mod U)} {hmods : FuncId → List FuncId → Option (HMod U)} (henv : E.env = envOf mods) (hhm : E.hm = envH hmods) (hown : ∀ g, E.own g = none) (h : ∀ g m, mods g = some m → FnOK P E g m)
    (h' : ∀ g k m, hmods g k = some m → HFnOK P E g m) : EnvFns P E := by
  refine ⟨?_, fun g k hs hh => ?_⟩
  rotate_left
  · rw [hhm] at hh
    simp only [envH, Option.map_eq_some_iff] at hh
    obtain ⟨m, hm, rfl⟩ := hh
    refine ⟨(h' g k m hm).entered, fun as H0 r H1 hrun => ?_⟩
    simp only [HMod.spec] at hrun
    split at hrun
    · rename_i hx
      obtain ⟨x, rfl, rfl⟩ := hx
      simp only [Option.map_eq_some_iff] at hrun
      obtain ⟨y, hy, he⟩ := hrun
      simp only [Prod.mk.injEq] at he
      obtain ⟨rfl, rfl⟩ := he
      generalize hch : (⟨x, rfl, rfl⟩ : ∃ y : m.sin.X U, toVs U (m.sin.enc y).1 = toVs U (m.sin.enc x).1 ∧ toH U (m.sin.enc y).2 = toH U (m.sin.enc x).2) = hex at hy
      have hxe := Shape.enc_inj hU m.ok (Classical.choose_spec hex).1 (Classical.choose_spec hex).2
      rw [hxe] at hy
      exact (h' g k m hm).heap x y hy
    · cases hrun
  intro g F hF
  have hm : ∃ m, mods g = some m := by
    rw [henv] at hF
    unfold envOf at hF
    cases hm : mods g with
    | none => simp [hm] at hF
    | some m => exact ⟨m, rfl⟩
  obtain ⟨m, hm⟩ := hm
  refine ⟨(h g m hm).entered, fun as r _ hr => ?_⟩
  rw [hown g]
  have hF' := hF
  rw [henv] at hF
  unfold envOf at hF
  simp only [hm, Option.some.injEq] at hF
  subst hF
  simp only at hr
  split at hr
  · rename_i hx
    obtain ⟨x, hx'⟩ := hx
    subst hx'
    have := envOf_at hU hm (by rw [henv] at hF'; exact hF') x
    have hr' : (m.fn x).map (U.enc m.rt) = some r := by
      rw [← this]
      simp only [dif_pos (⟨x, rfl⟩ : ∃ y : Args U m.ts, encArgs m.ts y = encArgs m.ts x)]
      exact hr
    cases hfx : m.fn x with
    | none => simp [hfx] at hr'
    | some a =>
      simp only [hfx, Option.map_some, Option.some.injEq] at hr'
      subst hr'
      exact (h g m hm).pure x a hfx
  · cases hr

theorem pure_of_runs {P : Program} {E : Env} (hE : EnvOK E) (hP : E.P = P) (hF : EnvFns P E) {n : Nat} {f : FuncId} {fn : Func} (hfn : E.func f = some fn) {c : Code} (hb : fn.body = some c) {as : List V} {r : V} {H1 : Heap}
    (h : RunsV (callD E n) E f fn 0 (Zp E fn) (.run c) [] ⟨as ++ List.replicate (fn.ntmps - as.length) vundef, []⟩ (r, H1)) : Entered P f ∧ PureFn P E f as r := by
  obtain ⟨hf1, hf2⟩ := hE.func f fn hfn
  rw [hP] at hf1
  refine ⟨⟨fn, hf1, by simp [hb], hf2⟩, ?_⟩
  intro fz w vs hcells hg hr
  have hI : Inv w.heap.size (Start.of w fz) (bare fz) [] w := ⟨Below.refl _ w, Nat.le_refl _, fun id L hL => (by cases hL), fun id bx hb => by simp at hb, fun i j b1 b2 L1 L2 g h1 => by simp at h1, hcells,
    fun b c hc id bx L hb => by simp at hb, fun id bx hb => by simp at hb, fun b c hc _ => hc, fun b hb => hb.elim⟩
  have hslots : Reps (bare fz) w (as ++ List.replicate (fn.ntmps - as.length) vundef) (vs.toArray ++ Array.replicate (fn.ntmps - vs.toArray.size) undef).toList := by
    simp only [Array.toList_append, Array.toList_replicate, List.size_toArray]
    rw [← hr.length]
    exact hr.append (Reps.replicate _ (.no .nil))
  have hrel : Rel E w.heap.size (Start.of w fz) (bare fz) ⟨as ++ List.replicate (fn.ntmps - as.length) vundef, []⟩ { tmps := vs.toArray ++ Array.replicate (fn.ntmps - vs.toArray.size) undef, defers := [] } w := ⟨hI, hg, hslots, rfl⟩
  have hwp := runs_ok hE hP (callD_ok hE hP hF n w.heap.size (Start.of w fz)) (callD_calls n) (F := Fin P fn w.heap.size (Start.of w fz)) (σ0 := bare fz) (ws := w)
    (fun st r σ a w' hz hr hx => fin_ok hE hP hr (fun b c hh => (hx.fz b c hh).1) hz) h (hE.calm f fn c hfn hb) rfl _ _ _ hrel (Ext.refl _ _).k
  refine calls_of_wp hf1 hb ?_
  intro fr k cs
  obtain ⟨e, a', w', hq, harr⟩ := hwp fr k cs
  refine ⟨e, a', w', ?_, harr⟩
  cases e with
  | normal =>
    obtain ⟨h0, u, fz', h1, h2, h3, h4, h5, h6, h7⟩ := hq
    exact ⟨h0, u, h1, u, fz', rfl, h2, h3, h4, h5, h6, h7⟩
  | ret =>
    obtain ⟨h0, u, fz', h1, h2, h3, h4, h5, h6, h7⟩ := hq
    exact ⟨h0, u, h1, u, fz', rfl, h2, h3, h4, h5, h6, h7⟩
  | exit id => exact hq.elim
  | goto l => exact hq.elim
  | panic c => exact hq.elim
  | outgrown => exact hq.elim

theorem heap_of_runs {P : Program} {E : Env} (hE : EnvOK E) (hP : E.P = P) (hF : EnvFns P E) {n : Nat} {f : FuncId} {fn : Func} (hfn : E.func f = some fn) {c : Code} (hb : fn.body = some c) {as : List V} {H0 : Heap} {r : V} {H1 : Heap} {fa : List (List Fk)} {fb : List Bf} {k : Nat} (hk : H0.length = k)
    (h : RunsV (callD E n) E f fn k (Zh E fn fa fb k) (.run c) [] ⟨as ++ List.replicate (fn.ntmps - as.length) vundef, H0⟩ (r, H1)) : Entered P f ∧ HeapFn P E f as H0 r H1 := by
  obtain ⟨hf1, hf2⟩ := hE.func f fn hfn
  rw [hP] at hf1
  refine ⟨⟨fn, hf1, by simp [hb], hf2⟩, ?_⟩
  intro B w0 σ w vs hI hg hr
  have hslots : Reps σ w (as ++ List.replicate (fn.ntmps - as.length) vundef) (vs.toArray ++ Array.replicate (fn.ntmps - vs.toArray.size) undef).toList := by
    simp only [Array.toList_append, Array.toList_replicate, List.size_toArray]
    rw [← hr.length]
    exact hr.append (Reps.replicate _ (.no .nil))
  have hrel : Rel E B w0 σ ⟨as ++ List.replicate (fn.ntmps - as.length) vundef, H0⟩ { tmps := vs.toArray ++ Array.replicate (fn.ntmps - vs.toArray.size) undef, defers := [] } w := ⟨hI, hg, hslots, rfl⟩
  have hwp := runs_ok hE hP (callD_ok hE hP hF n B w0) (callD_calls n) (F := FinH P fn B w0 σ w) (σ0 := σ) (ws := w)
    (fun st r σ' a w' hz hr hx => finH_ok hE hP (fun id L hL => by rw [← hk]; exact hI.dom_lt hL) hr hx hz) h (hE.calm f fn c hfn hb) rfl _ _ _ hrel (Ext.refl _ _).k
  refine calls_of_wp hf1 hb ?_
  intro fr k cs
  obtain ⟨e, a', w', hq, harr⟩ := hwp fr k cs
  refine ⟨e, a', w', ?_, harr⟩
  cases e with
  | normal =>
    obtain ⟨h0, u, σ', h1, h2, h3, h4⟩ := hq
    exact ⟨h0, u, h1, u, σ', rfl, h2, h3, h4⟩
  | ret =>
    obtain ⟨h0, u, σ', h1, h2, h3, h4⟩ := hq
    exact ⟨h0, u, h1, u, σ', rfl, h2, h3, h4⟩
  | exit id => exact hq.elim
  | goto l => exact hq.elim
  | panic c => exact hq.elim
  | outgrown => exact hq.elim

/-! ### from trees to runs -/

theorem den_runs {L R : Type} {J : L → Option R} : ∀ {T : Tr U L} {r : R}, T.den J = some r → ∃ l, T.Runs l ∧ J l = some r := by
  intro T
  induction T with
  | leaf l => intro r h; exact ⟨l, rfl, h⟩
  | br c a b iha ihb =>
    intro r h
    cases c with
    | true => obtain ⟨l, h1, h2⟩ := iha h; exact ⟨l, .inl ⟨rfl, h1⟩, h2⟩
    | false => obtain ⟨l, h1, h2⟩ := ihb h; exact ⟨l, .inr ⟨rfl, h1⟩, h2⟩
  | bind t o k ih =>
    intro r h
    cases o with
    | none => cases h
    | some a => obtain ⟨l, h1, h2⟩ := ih a h; exact ⟨l, ⟨a, rfl, h1⟩, h2⟩
  | chk c a ih =>
    intro r h
    cases c with
    | true => obtain ⟨l, h1, h2⟩ := ih h; exact ⟨l, ⟨rfl, h1⟩, h2⟩
    | false => cases h
  | fail => intro r h; cases h

theorem runs_map {L M : Type} {g : L → M} : ∀ {T : Tr U L} {l : L}, T.Runs l → (T.map g).Runs (g l) := by
  intro T
  induction T with
  | leaf l => intro l h; simp only [Tr.Runs] at h; subst h; rfl
  | br c a b iha ihb =>
    intro l h
    rcases h with ⟨hc, h⟩ | ⟨hc, h⟩
    · exact .inl ⟨hc, iha h⟩
    · exact .inr ⟨hc, ihb h⟩
  | bind t o k ih => rintro l ⟨a, ha, h⟩; exact ⟨a, ha, ih a h⟩
  | chk c a ih => rintro l ⟨hc, h⟩; exact ⟨hc, ih h⟩
  | fail => intro l h; exact h

/-! ### code by its place -/

def nav : Code → List Nat → List Fr → Code × List Fr
  | .seq a b, 0 :: p, K => nav a p (.seq b :: K)
  | .seq a b, _ :: p, K => nav b p K
  | .cond _ a b, 0 :: p, K => nav a p K
  | .cond _ a b, _ :: p, K => nav b p K
  | .block id b, _ :: p, K => nav b p (.blk id :: K)
  | .loop b, _ :: p, K => nav b p (.loop b :: K)
  | c, _, K => (c, K)

def bodyOf (fn : Func) : Code := match fn.body with | some c => c | none => .skip

/-! ### what loops come to -/

open Classical in
noncomputable def limO {α : Type} (g : Nat → Option α) : Option α := if h : ∃ n a, g n = some a then g (Classical.choose h) else none

theorem limO_some {α : Type} {g : Nat → Option α} {a : α} (h : limO g = some a) : ∃ n, g n = some a := by
  unfold limO at h
  split at h
  · exact ⟨_, h⟩
  · cases h

def Mono {α : Type} (g : Nat → Option α) : Prop := ∀ n a, g n = some a → g (n + 1) = some a

theorem Mono.le {α : Type} {g : Nat → Option α} (hg : Mono g) {n m : Nat} {a : α} (h : g n = some a) (hle : n ≤ m) : g m = some a := by
  induction hle with
  | refl => exact h
  | step _ ih => exact hg _ _ ih

theorem limO_eq {α : Type} {g : Nat → Option α} (hg : Mono g) {n : Nat} {a : α} (h : g n = some a) : limO g = some a := by
  unfold limO
  have hex : ∃ n a, g n = some a := ⟨n, a, h⟩
  rw [dif_pos hex]
  obtain ⟨b, hb⟩ := Classical.choose_spec hex
  have h1 := hg.le h (Nat.le_max_left n (Classical.choose hex))
  have h2 := hg.le hb (Nat.le_max_right n (Classical.choose hex))
  rw [hb]
  rw [h1] at h2
  exact h2.symm

end

abbrev w64 (x : Int) : Int := IntKind.wrap .i64 x

end Go.Proofs.YtkepnndakhpgoaaGreatDoor.Le

/-
  How values of Lean's types lie in cells: codes for scalars, rows of fields, lists.
-/
namespace Go.Proofs.YtkepnndakhpgoaaGreatDoor.Le
set_option linter.unusedVariables false

structure Codec (Ty : Nat → Type) (T : Type) where
  encV : T → List V
  encS : T → List (SV Ty)
  dec : List (SV Ty) → Option (T × List (SV Ty))

section
variable {Ty : Nat → Type}

def Codec.int (k : IntKind) : Codec Ty Int where
  encV := fun a => [.lit (.int k a)]
  encS := fun a => [.si k a]
  dec := fun cs => match cs with
    | .si j a :: r => if j = k then some (a, r) else none
    | .lit (.int j a) :: r => if j = k then some (a, r) else none
    | _ => none
def Codec.bool : Codec Ty Bool where
  encV := fun b => [.lit (.bool b)]
  encS := fun b => [.sb b]
  dec := fun cs => match cs with
    | .sb b :: r => some (b, r)
    | .lit (.bool b) :: r => some (b, r)
    | _ => none
def Codec.str : Codec Ty ByteArray where
  encV := fun b => [.lit (.string b)]
  encS := fun b => [.ss b]
  dec := fun cs => match cs with
    | .ss b :: r => some (b, r)
    | .lit (.string b) :: r => some (b, r)
    | _ => none
def Codec.list (t n : Nat) (e : Ty t → V) : Codec Ty (List (Ty t)) where
  encV := fun xs => [.sl false n (xs.map e)]
  encS := fun xs => [.sl t xs]
  dec := fun cs => match cs with
    | .sl t' xs :: r => if h : t' = t then some (h ▸ xs, r) else none
    | .nil _ :: r => some ([], r)
    | _ => none
def Codec.unit : Codec Ty Unit where
  encV := fun _ => []
  encS := fun _ => []
  dec := fun cs => some ((), cs)
def Codec.pair {A B : Type} (a : Codec Ty A) (b : Codec Ty B) : Codec Ty (A × B) where
  encV := fun x => a.encV x.1 ++ b.encV x.2
  encS := fun x => a.encS x.1 ++ b.encS x.2
  dec := fun cs => match a.dec cs with
    | some (x, r) => match b.dec r with | some (y, r') => some ((x, y), r') | none => none
    | none => none
def Codec.iso {A B : Type} (f : A → B) (g : B → A) (b : Codec Ty B) : Codec Ty A where
  encV := fun x => b.encV (f x)
  encS := fun x => b.encS (f x)
  dec := fun cs => match b.dec cs with | some (y, r) => some (g y, r) | none => none

def Codec.agg {T : Type} (c : Codec Ty T) (v : SV Ty) : Option T := match v with
  | .agg cs => match c.dec cs with | some (a, []) => some a | _ => none
  | _ => none
def Codec.one {T : Type} (c : Codec Ty T) (v : SV Ty) : Option T := match c.dec [v] with | some (a, []) => some a | _ => none
def Codec.oneV {T : Type} (c : Codec Ty T) (a : T) : V := (c.encV a).headD .no
def Codec.oneS {T : Type} (c : Codec Ty T) (a : T) : SV Ty := (c.encS a).headD .no
end

structure CodecOK (U : Univ) {T : Type} (c : Codec U.Ty T) (rs : List Nat) : Prop where
  enc : ∀ a, toVs U (c.encS a) = c.encV a
  len : ∀ a, (c.encV a).length = rs.length
  dec : ∀ cs a rest, c.dec cs = some (a, rest) → ∃ pre, cs = pre ++ rest ∧ pre.length = rs.length ∧ retypeL rs (toVs U pre) = c.encV a
  nr : ∀ a, noRefs (c.encV a) = true
  inj : ∀ a b, c.encV a = c.encV b → a = b

section
variable {U : Univ}

theorem CodecOK.int (k : IntKind) : CodecOK U (Codec.int k : Codec U.Ty Int) [0] := by
  refine ⟨fun a => rfl, fun a => rfl, ?_, fun a => rfl, fun a b h => by simpa [Codec.int] using h⟩
  intro cs a rest h
  simp only [Codec.int] at h
  split at h
  · rename_i j x r
    split at h
    · rename_i hj
      simp only [Option.some.injEq, Prod.mk.injEq] at h
      obtain ⟨rfl, rfl⟩ := h
      subst hj
      exact ⟨[_], rfl, rfl, rfl⟩
    · cases h
  · rename_i j x r
    split at h
    · rename_i hj
      simp only [Option.some.injEq, Prod.mk.injEq] at h
      obtain ⟨rfl, rfl⟩ := h
      subst hj
      exact ⟨[_], rfl, rfl, rfl⟩
    · cases h
  · cases h

theorem CodecOK.bool : CodecOK U (Codec.bool : Codec U.Ty Bool) [0] := by
  refine ⟨fun a => rfl, fun a => rfl, ?_, fun a => rfl, fun a b h => by simpa [Codec.bool] using h⟩
  intro cs a rest h
  simp only [Codec.bool] at h
  split at h <;> cases h <;> exact ⟨[_], rfl, rfl, rfl⟩

theorem CodecOK.str : CodecOK U (Codec.str : Codec U.Ty ByteArray) [0] := by
  refine ⟨fun a => rfl, fun a => rfl, ?_, fun a => rfl, fun a b h => by simpa [Codec.str] using h⟩
  intro cs a rest h
  simp only [Codec.str] at h
  split at h <;> cases h <;> exact ⟨[_], rfl, rfl, rfl⟩

theorem map_inj {α β : Type} {f : α → β} (hf : ∀ a b, f a = f b → a = b) : ∀ {xs ys : List α}, xs.map f = ys.map f → xs = ys := by
  intro xs
  induction xs with
  | nil => intro ys h; cases ys with
    | nil => rfl
    | cons => simp at h
  | cons x xs ih => intro ys h; cases ys with
    | nil => simp at h
    | cons y ys =>
      simp only [List.map_cons, List.cons.injEq] at h
      rw [hf _ _ h.1, ih h.2]

theorem CodecOK.list {t n : Nat} {e : U.Ty t → V} (he : ∀ a, U.enc t a = e a) (hn : U.esz t = n) (hnr : ∀ a, noRef (e a) = true) (hinj : ∀ a b, e a = e b → a = b) : CodecOK U (Codec.list t n e : Codec U.Ty (List (U.Ty t))) [n] := by
  have hmap : ∀ xs : List (U.Ty t), xs.map (U.enc t) = xs.map e := fun xs => List.map_congr_left fun a _ => he a
  refine ⟨fun a => ?_, fun a => rfl, ?_, fun a => ?_, fun a b h => ?_⟩
  · simp [Codec.list, toVs, toV, hn, hmap]
  · intro cs a rest h
    simp only [Codec.list] at h
    split at h
    · rename_i t' xs r
      split at h
      · rename_i ht
        subst ht
        simp only [Option.some.injEq, Prod.mk.injEq] at h
        obtain ⟨rfl, rfl⟩ := h
        exact ⟨[_], rfl, rfl, by simp [toVs, toV, retypeL, retype1, Codec.list, hn, hmap]⟩
      · cases h
    · cases h
      exact ⟨[_], rfl, rfl, by simp [toVs, toV, retypeL, retype1, Codec.list]⟩
    · cases h
  · simp only [Codec.list, noRefs, noRef, Bool.and_true]
    rw [noRefs_iff]
    intro x hx
    obtain ⟨y, _, rfl⟩ := List.mem_map.1 hx
    exact hnr y
  · simp only [Codec.list, List.cons.injEq, V.sl.injEq, true_and, and_true] at h
    exact map_inj hinj h

theorem CodecOK.unit : CodecOK U (Codec.unit : Codec U.Ty Unit) [] :=
  ⟨fun a => rfl, fun a => rfl, fun cs a rest h => by cases h; exact ⟨[], rfl, rfl, rfl⟩, fun a => rfl, fun a b _ => rfl⟩

theorem retypeL_append : ∀ (r1 r2 : List Nat) (x y : List V), x.length = r1.length → retypeL (r1 ++ r2) (x ++ y) = retypeL r1 x ++ retypeL r2 y := by
  intro r1
  induction r1 with
  | nil => intro r2 x y h; cases x with
    | nil => simp [retypeL]
    | cons => simp at h
  | cons r r1 ih => intro r2 x y h; cases x with
    | nil => simp at h
    | cons v x => simp [retypeL, ih r2 x y (by simpa using h)]

theorem noRefs_append (x y : List V) : noRefs (x ++ y) = (noRefs x && noRefs y) := by
  induction x with
  | nil => simp [noRefs]
  | cons a x ih => simp [noRefs, ih, Bool.and_assoc]

theorem CodecOK.pair {A B : Type} {a : Codec U.Ty A} {b : Codec U.Ty B} {r1 r2 : List Nat} (ha : CodecOK U a r1) (hb : CodecOK U b r2) : CodecOK U (Codec.pair a b) (r1 ++ r2) := by
  refine ⟨fun x => ?_, fun x => ?_, ?_, fun x => ?_, fun x y h => ?_⟩
  · simp only [Codec.pair, toVs_append, ha.enc, hb.enc]
  · simp only [Codec.pair, List.length_append, ha.len, hb.len]
  · intro cs x rest h
    simp only [Codec.pair] at h
    split at h
    · rename_i p r hp
      split at h
      · rename_i q r' hq
        cases h
        obtain ⟨p1, e1, l1, t1⟩ := ha.dec _ _ _ hp
        obtain ⟨p2, e2, l2, t2⟩ := hb.dec _ _ _ hq
        refine ⟨p1 ++ p2, by rw [e1, e2, List.append_assoc], by simp [l1, l2], ?_⟩
        rw [toVs_append, retypeL_append _ _ _ _ (by rw [length_toVs]; exact l1), t1, t2]
        rfl
      · cases h
    · cases h
  · simp only [Codec.pair, noRefs_append, ha.nr, hb.nr, Bool.and_self]
  · simp only [Codec.pair] at h
    obtain ⟨h1, h2⟩ := List.append_inj h (by rw [ha.len, ha.len])
    obtain ⟨x1, x2⟩ := x
    obtain ⟨y1, y2⟩ := y
    exact Prod.ext (ha.inj _ _ h1) (hb.inj _ _ h2)

theorem CodecOK.iso {A B : Type} {f : A → B} {g : B → A} {b : Codec U.Ty B} {r : List Nat} (hb : CodecOK U b r) (hfg : ∀ y, f (g y) = y) (hgf : ∀ x, g (f x) = x) : CodecOK U (Codec.iso f g b) r := by
  refine ⟨fun x => hb.enc _, fun x => hb.len _, ?_, fun x => hb.nr _, fun x y h => ?_⟩
  · intro cs x rest h
    simp only [Codec.iso] at h
    split at h
    · rename_i y r' hy
      cases h
      obtain ⟨p, e, l, t⟩ := hb.dec _ _ _ hy
      exact ⟨p, e, l, by simp only [Codec.iso, hfg]; exact t⟩
    · cases h
  · have := hb.inj _ _ h
    rw [← hgf x, this, hgf]

theorem CodecOK.agg {T : Type} {c : Codec U.Ty T} {r : List Nat} (h : CodecOK U c r) {v : SV U.Ty} {a : T} (hd : c.agg v = some a) : retype r (toV U v) = .agg (c.encV a) := by
  unfold Codec.agg at hd
  split at hd
  · split at hd
    · rename_i cs _ hcs
      cases hd
      obtain ⟨p, e, l, t⟩ := h.dec _ _ _ hcs
      simp only [List.append_nil] at e
      subst e
      simp only [toV, retype, t]
    · cases hd
  · cases hd

theorem CodecOK.one {T : Type} {c : Codec U.Ty T} {n : Nat} (h : CodecOK U c [n]) {v : SV U.Ty} {a : T} (hd : c.one v = some a) (hv : ∀ cs, toV U v ≠ .agg cs) : retype [n] (toV U v) = c.oneV a := by
  unfold Codec.one at hd
  split at hd
  · rename_i hcs
    cases hd
    obtain ⟨p, e, l, t⟩ := h.dec _ _ _ hcs
    simp only [List.append_nil] at e
    subst e
    simp only [toVs, retypeL] at t
    unfold Codec.oneV
    rw [← t]
    unfold retype
    split
    · rename_i cs hcs'; exact absurd hcs' (hv cs)
    · rfl
  · cases hd

theorem na_int {k : IntKind} {v : SV U.Ty} {a : Int} (h : (Codec.int k : Codec U.Ty Int).one v = some a) : ∀ cs, toV U v ≠ .agg cs := by
  rintro cs hc
  cases v <;> simp_all [toV, Codec.one, Codec.int]
theorem na_bool {v : SV U.Ty} {a : Bool} (h : (Codec.bool : Codec U.Ty Bool).one v = some a) : ∀ cs, toV U v ≠ .agg cs := by
  rintro cs hc
  cases v <;> simp_all [toV, Codec.one, Codec.bool]
theorem na_str {v : SV U.Ty} {a : ByteArray} (h : (Codec.str : Codec U.Ty ByteArray).one v = some a) : ∀ cs, toV U v ≠ .agg cs := by
  rintro cs hc
  cases v <;> simp_all [toV, Codec.one, Codec.str]
theorem na_list {t n : Nat} {e : U.Ty t → V} {v : SV U.Ty} {a : List (U.Ty t)} (h : (Codec.list t n e : Codec U.Ty (List (U.Ty t))).one v = some a) : ∀ cs, toV U v ≠ .agg cs := by
  rintro cs hc
  cases v <;> simp_all [toV, Codec.one, Codec.list]

theorem CodecOK.oneEnc {T : Type} {c : Codec U.Ty T} {n : Nat} (h : CodecOK U c [n]) (a : T) : toV U (c.oneS a) = c.oneV a := by
  unfold Codec.oneS Codec.oneV
  rw [← h.enc a]
  have hl := h.len a
  rw [← h.enc a, length_toVs] at hl
  cases hs : c.encS a with
  | nil => rw [hs] at hl; simp at hl
  | cons x xs => rfl

theorem CodecOK.oneInj {T : Type} {c : Codec U.Ty T} {n : Nat} (h : CodecOK U c [n]) {a b : T} (he : c.oneV a = c.oneV b) : a = b := by
  refine h.inj a b ?_
  have h1 := h.len a
  have h2 := h.len b
  unfold Codec.oneV at he
  cases ha : c.encV a with
  | nil => rw [ha] at h1; simp at h1
  | cons x xs =>
    cases hb : c.encV b with
    | nil => rw [hb] at h2; simp at h2
    | cons y ys =>
      rw [ha, hb] at he
      rw [ha] at h1
      rw [hb] at h2
      simp only [List.headD_cons] at he
      have hx : xs = [] := by simpa using h1
      have hy : ys = [] := by simpa using h2
      rw [he, hx, hy]

theorem CodecOK.oneNr {T : Type} {c : Codec U.Ty T} {n : Nat} (h : CodecOK U c [n]) (a : T) : noRef (c.oneV a) = true := by
  have := h.nr a
  unfold Codec.oneV
  cases ha : c.encV a with
  | nil => rfl
  | cons x xs => rw [ha] at this; simp [noRefs] at this; exact this.1

end


/-! ### what a call sees of a variable whose address it is given -/

def Codec.skip {Ty : Nat → Type} : Codec Ty Unit where
  encV := fun _ => [.und]
  encS := fun _ => [.und]
  dec := fun cs => match cs with
    | .und :: r => some ((), r)
    | _ => none
theorem CodecOK.skip {U : Univ} : CodecOK U (Codec.skip : Codec U.Ty Unit) [0] := by
  refine ⟨fun a => rfl, fun a => rfl, ?_, fun a => rfl, fun a b _ => rfl⟩
  intro cs a rest h
  simp only [Codec.skip] at h
  split at h <;> cases h
  exact ⟨[_], rfl, rfl, rfl⟩

def rawS {Ty : Nat → Type} : V → SV Ty
  | .lit v => .lit v
  | .und => .und
  | _ => .no
def rawOK : V → Bool
  | .lit _ => true
  | .und => true
  | _ => false
def Codec.ptrV {Ty : Nat → Type} {T : Type} (c : Codec Ty T) (n : Nat) (a : T) : V := .ept n [.agg (c.encV a)] 0 0
def Codec.ptrD {Ty : Nat → Type} {T : Type} (c : Codec Ty T) (n : Nat) (v : SV Ty) : Option T := match v with
  | .raw (.ept m [.agg cs] 0 0) => if m = n ∧ cs.all rawOK = true then c.agg (.agg (cs.map rawS)) else none
  | _ => none

theorem rawS_toV {U : Univ} : ∀ {cs : List V}, cs.all rawOK = true → toVs U (cs.map rawS) = cs := by
  intro cs
  induction cs with
  | nil => intro _; rfl
  | cons c cs ih =>
    intro h
    simp only [List.all_cons, Bool.and_eq_true] at h
    simp only [List.map_cons, toVs, ih h.2]
    cases c <;> simp_all [rawOK, rawS, toV]
theorem raw_retype : ∀ {cs : List V}, cs.all rawOK = true → ∀ rs, retypeL rs cs = cs := by
  intro cs
  induction cs with
  | nil => intro _ rs; cases rs <;> rfl
  | cons c cs ih =>
    intro h rs
    simp only [List.all_cons, Bool.and_eq_true] at h
    cases rs with
    | nil => rfl
    | cons r rs =>
      simp only [retypeL, ih h.2]
      cases c <;> simp_all [rawOK, retype1]

theorem CodecOK.ptr_dec {U : Univ} {T : Type} {c : Codec U.Ty T} {r : List Nat} (h : CodecOK U c r) {n : Nat} {v : SV U.Ty} {a : T} (hd : c.ptrD n v = some a) (rs : List Nat) : retype rs (toV U v) = c.ptrV n a := by
  unfold Codec.ptrD at hd
  split at hd
  · rename_i m cs
    split at hd
    · rename_i hc
      obtain ⟨rfl, hall⟩ := hc
      have := h.agg hd
      simp only [toV, retype, rawS_toV hall, V.agg.injEq] at this
      rw [raw_retype hall] at this
      simp only [toV, retype, retype1, Codec.ptrV, this]
    · cases hd
  · cases hd
theorem CodecOK.ptr_nr {U : Univ} {T : Type} {c : Codec U.Ty T} {r : List Nat} (h : CodecOK U c r) (n : Nat) (a : T) : noRef (c.ptrV n a) = true := by
  simp [Codec.ptrV, noRef, noRefs, h.nr]
theorem CodecOK.ptr_inj {U : Univ} {T : Type} {c : Codec U.Ty T} {r : List Nat} (h : CodecOK U c r) {n : Nat} {a b : T} (he : c.ptrV n a = c.ptrV n b) : a = b := by
  simp only [Codec.ptrV, V.ept.injEq, List.cons.injEq, V.agg.injEq, and_true, true_and] at he
  exact h.inj _ _ he

end Go.Proofs.YtkepnndakhpgoaaGreatDoor.Le

/-
  A function's environment, and what is known of a function once its trees are.
-/
namespace Go.Proofs.YtkepnndakhpgoaaGreatDoor.Le
set_option linter.unusedVariables false

noncomputable def EV {U : Univ} (P : Program) (gl : Nat → Option (List V)) (f : FuncId) (mods : FuncId → Option (Mod U)) (hmods : FuncId → List FuncId → Option (HMod U)) : Env :=
  { plainEnv P (fun _ => false) (envOf mods) with
    func := fun g => if g = f then P.funcs[g]? else none
    glob := gl
    hm := envH hmods
    par := fun g => match mods g with | some m => m.ts | none => [] }

section
variable {U : Univ} {P : Program} {gl : Nat → Option (List V)} {f : FuncId} {mods : FuncId → Option (Mod U)} {hmods : FuncId → List FuncId → Option (HMod U)}

theorem EV_ok (hmix : P.follows .mixedOrders = true) {fn : Func} {c : Code} (hfn : P.funcs[f]? = some fn) (hname : (fn.name == "runtime.NumGoroutine") = false) (hb : fn.body = some c) (hcalm : calmC (EV P gl f mods hmods) f c = true) : EnvOK (EV P gl f mods hmods) := by
  refine ⟨fun t i h => h, ?_, hmix, ?_, ?_, ?_, ?_, fun t ks h => h, ?_⟩
  · intro g fn' h
    simp only [EV] at h
    split at h
    · rename_i hg
      subst hg
      rw [hfn] at h
      cases h
      exact ⟨hfn, hname⟩
    · cases h
  · intro g fn' c' h hb'
    simp only [EV] at h
    split at h
    · rename_i hg
      subst hg
      rw [hfn] at h
      cases h
      rw [hb] at hb'
      cases hb'
      exact hcalm
    · cases h
  · intro t k h
    simp only [EV, plainEnv] at h
    split at h
    · rename_i d hd
      simp only [Option.some.injEq] at h
      subst h
      exact hd
    · cases h
  · intro t h
    simp only [EV, plainEnv] at h
    split at h
    · rename_i hd; exact hd
    · cases h
  · intro t h
    simp only [EV, plainEnv] at h
    split at h
    · rename_i hd; exact hd
    · cases h
  · intro t h
    simp only [EV, plainEnv] at h
    split at h
    · rename_i e he
      split at h
      · rename_i hd; exact ⟨e, he, hd⟩
      · cases h
    · cases h

def encArgsS : (ts : List Nat) → Args U ts → List (SV U.Ty)
  | [], _ => []
  | t :: ts, x => U.encS t x.1 :: encArgsS ts x.2

/-- Where a call begins. -/
def entryS (ts : List Nat) (x : Args U ts) (n : Nat) : SSt U := ⟨encArgsS ts x ++ List.replicate (n - ts.length) .no, []⟩

theorem encArgsS_toV {E : Env} (hU : UnivOK U E) : ∀ {ts : List Nat} (x : Args U ts), toVs U (encArgsS ts x) = encArgs ts x := by
  intro ts
  induction ts with
  | nil => intro x; rfl
  | cons t ts ih => intro x; simp only [encArgsS, toVs, encArgs, hU.encS, ih]

theorem encArgs_length : ∀ {ts : List Nat} (x : Args U ts), (encArgs ts x).length = ts.length := by
  intro ts
  induction ts with
  | nil => intro x; rfl
  | cons t ts ih => intro x; simp [encArgs, ih]

theorem entryS_toV {E : Env} (hU : UnivOK U E) {ts : List Nat} (x : Args U ts) (n : Nat) : toSt U (entryS ts x n) = ⟨encArgs ts x ++ List.replicate (n - (encArgs ts x).length) vundef, []⟩ := by
  simp only [toSt, entryS, toVs_append, encArgsS_toV hU, encArgs_length]
  congr 1
  congr 1
  rw [toVs_map, List.map_replicate]
  rfl

/-- **What is known of a function.** -/
theorem fn_ok {E0 : Env} (hE0 : E0.glob = gl) (hU : UnivOK U (EV P gl f mods hmods)) (hmix : P.follows .mixedOrders = true) {fn : Func} {c : Code} (hok : ∀ g m, mods g = some m → FnOK P E0 g m) (hhok : ∀ g k m, hmods g k = some m → HFnOK P E0 g m) (hfn : P.funcs[f]? = some fn) (hname : (fn.name == "runtime.NumGoroutine") = false)
    (hb : fn.body = some c) (hcalm : calmC (EV P gl f mods hmods) f c = true) (m : Mod U)
    (h : ∀ x a, m.fn x = some a → RunsV (callD (EV P gl f mods hmods) 1) (EV P gl f mods hmods) f fn 0 (Zp (EV P gl f mods hmods) fn) (.run c) [] (toSt U (entryS m.ts x fn.ntmps)) (U.enc m.rt a, [])) : FnOK P E0 f m := by
  have hE := EV_ok (gl := gl) (mods := mods) hmix hfn hname hb hcalm
  have hF : EnvFns P (EV P gl f mods hmods) := envFns_of hU rfl rfl (fun _ => rfl) (fun g m hm => (hok g m hm).glob (by rw [hE0]; rfl)) (fun g k m hm => (hhok g k m hm).glob (by rw [hE0]; rfl))
  have hfn' : (EV P gl f mods hmods).func f = some fn := by simp only [EV, if_true]; exact hfn
  have key : ∀ x a, m.fn x = some a → Entered P f ∧ PureFn P (EV P gl f mods hmods) f (encArgs m.ts x) (U.enc m.rt a) := by
    intro x a hx
    have := h x a hx
    rw [entryS_toV hU] at this
    exact pure_of_runs hE rfl hF hfn' hb this
  refine ⟨⟨fn, hfn, by simp [hb], hname⟩, fun x a hx fz w vs hc hg hr => (key x a hx).2 fz w vs hc ?_ hr⟩
  intro g r hh
  exact hg g r (by rw [hE0]; exact hh)

/-- Where a call begins that is given boxes. -/
def entryH (e : List (SV U.Ty) × SHeap U) (n : Nat) : SSt U := ⟨e.1 ++ List.replicate (n - e.1.length) .no, e.2⟩

theorem entryH_toV (e : List (SV U.Ty) × SHeap U) (n : Nat) : toSt U (entryH e n) = ⟨toVs U e.1 ++ List.replicate (n - (toVs U e.1).length) vundef, toH U e.2⟩ := by
  simp only [toSt, entryH, toVs_append, length_toVs]
  congr 1
  congr 1
  rw [toVs_map, List.map_replicate]
  rfl

/-- **What is known of a function that is given boxes.** -/
theorem hfn_ok {E0 : Env} (hE0 : E0.glob = gl) (hU : UnivOK U (EV P gl f mods hmods)) (hmix : P.follows .mixedOrders = true) {fn : Func} {c : Code} (hok : ∀ g m, mods g = some m → FnOK P E0 g m) (hhok : ∀ g k m, hmods g k = some m → HFnOK P E0 g m) (hfn : P.funcs[f]? = some fn) (hname : (fn.name == "runtime.NumGoroutine") = false)
    (hb : fn.body = some c) (hcalm : calmC (EV P gl f mods hmods) f c = true) (m : HMod U) {fa : List (List Fk)} {fb : List Bf} {k : Nat} (hk : ∀ x : m.sin.X U, (m.sin.enc x).2.length = k)
    (h : ∀ (x : m.sin.X U) (y : U.Ty m.ky), m.fn x = some y → RunsV (callD (EV P gl f mods hmods) 1) (EV P gl f mods hmods) f fn k (Zh (EV P gl f mods hmods) fn fa fb k) (.run c) [] (toSt U (entryH (m.sin.enc x) fn.ntmps)) (toV U (m.out y).1, toH U (m.out y).2)) : HFnOK P E0 f m := by
  have hE := EV_ok (gl := gl) (mods := mods) (hmods := hmods) hmix hfn hname hb hcalm
  have hF : EnvFns P (EV P gl f mods hmods) := envFns_of hU rfl rfl (fun _ => rfl) (fun g m hm => (hok g m hm).glob (by rw [hE0]; rfl)) (fun g k m hm => (hhok g k m hm).glob (by rw [hE0]; rfl))
  have hfn' : (EV P gl f mods hmods).func f = some fn := by simp only [EV, if_true]; exact hfn
  refine ⟨⟨fn, hfn, by simp [hb], hname⟩, fun x y hx B w0 σ w vs hi hg hr => ?_⟩
  have h1 := h x y hx
  rw [entryH_toV] at h1
  exact (heap_of_runs hE rfl hF hfn' hb (by rw [toH_length]; exact hk x) h1).2 B w0 σ w vs hi (fun g r hh => hg g r (by rw [hE0]; exact hh)) hr

theorem EV_mdl (hU : UnivOK U (EV P gl f mods hmods)) : MdlOK U (mdlOf mods hmods) (callD (EV P gl f mods hmods) 1) :=
  mdlOf_ok hU rfl rfl (fun _ => rfl) (fun g m h => by simp only [EV, h]) (fun _ => rfl) 0

end

/-! ### types of one kind -/

/-- The laws of a type of a universe. -/
structure TyOK (U : Univ) (E : Env) (t : Nat) : Prop where
  encS : ∀ a, toV U (U.encS t a) = U.enc t a
  dec : ∀ v a, U.decS t v = some a → retype (E.rows t) (toV U v) = U.enc t a
  cells : ∀ a, (U.enc t a).cells = toVs U (cellsS (U.encS t a))
  nr : ∀ a, noRef (U.enc t a) = true
  inj : ∀ a b, U.enc t a = U.enc t b → a = b

end Go.Proofs.YtkepnndakhpgoaaGreatDoor.Le

/-
  A function's blocks as one flow: what it comes to, its equation, and that calls come to it.
-/
namespace Go.Proofs.YtkepnndakhpgoaaGreatDoor.Le
set_option linter.unusedVariables false

section
variable {U : Univ} {R P : Type}

def flowJ {R P : Type} (g : P → Option R) : R ⊕ P → Option R
  | .inl r => some r
  | .inr q => g q

def flowN (T : P → Tr U (R ⊕ P)) : Nat → P → Option R
  | 0, _ => none
  | n + 1, p => (T p).den (flowJ (flowN T n))

noncomputable def flow (T : P → Tr U (R ⊕ P)) (p : P) : Option R := limO fun n => flowN T n p

theorem den_le {L : Type} {J K : L → Option R} (h : ∀ l r, J l = some r → K l = some r) : ∀ {T : Tr U L} {r : R}, T.den J = some r → T.den K = some r := by
  intro T
  induction T with
  | leaf l => intro r hr; exact h l r hr
  | br c a b iha ihb => intro r hr; cases c with
    | true => exact iha hr
    | false => exact ihb hr
  | bind t o k ih => intro r hr; cases o with
    | none => cases hr
    | some a => exact ih a hr
  | chk c a ih => intro r hr; cases c with
    | true => exact ih hr
    | false => cases hr
  | fail => intro r hr; cases hr

theorem flowN_mono (T : P → Tr U (R ⊕ P)) : ∀ n p r, flowN T n p = some r → flowN T (n + 1) p = some r := by
  intro n
  induction n with
  | zero => intro p r h; cases h
  | succ n ih =>
    intro p r h
    refine den_le ?_ h
    intro l r hl
    cases l with
    | inl a => exact hl
    | inr q => exact ih q r hl

theorem flow_of (T : P → Tr U (R ⊕ P)) {n : Nat} {p : P} {r : R} (h : flowN T n p = some r) : flow T p = some r :=
  limO_eq (fun n a h => flowN_mono T n p a h) h

/-- **The equation of a flow.** -/
theorem flow_eq (T : P → Tr U (R ⊕ P)) (p : P) : flow T p = (T p).den (flowJ (flow T)) := by
  have h1 : ∀ r, flow T p = some r → (T p).den (flowJ (flow T)) = some r := by
    intro r h
    obtain ⟨n, hn⟩ := limO_some h
    cases n with
    | zero => cases hn
    | succ n =>
      refine den_le ?_ hn
      intro l r hl
      cases l with
      | inl a => exact hl
      | inr q => exact flow_of T hl
  have h2 : ∀ r, (T p).den (flowJ (flow T)) = some r → flow T p = some r := by
    intro r h
    obtain ⟨l, hl, hr⟩ := den_runs h
    have key : ∃ n, (T p).den (flowJ (flowN T n)) = some r := by
      have hn : ∃ n, flowJ (flowN T n) l = some r := by
        cases l with
        | inl a => exact ⟨0, hr⟩
        | inr q => obtain ⟨n, hn⟩ := limO_some hr; exact ⟨n, hn⟩
      obtain ⟨n, hn⟩ := hn
      refine ⟨n, ?_⟩
      have : ∀ (X : Tr U (R ⊕ P)), X.Runs l → X.den (flowJ (flowN T n)) = some r := by
        intro X
        induction X with
        | leaf x => intro hx; simp only [Tr.Runs] at hx; subst hx; exact hn
        | br c a b iha ihb =>
          rintro (⟨rfl, hx⟩ | ⟨rfl, hx⟩)
          · exact iha hx
          · exact ihb hx
        | bind t o k ih => rintro ⟨a, rfl, hx⟩; exact ih a hx
        | chk c a ih => rintro ⟨rfl, hx⟩; exact ih hx
        | fail => intro hx; exact hx.elim
      exact this _ hl
    obtain ⟨n, hn⟩ := key
    exact flow_of T (n := n + 1) hn
  cases ha : flow T p with
  | some r => exact (h1 r ha).symm
  | none =>
    cases hb : (T p).den (flowJ (flow T)) with
    | none => rfl
    | some r => rw [h2 r hb] at ha; cases ha

/-- Where a block begins: its code, what comes behind it, its state, whether its first mark is passed over. -/
structure Spot (U : Univ) where
  c : Code
  K : List Fr
  st : SSt U
  sk : Bool

def leafOf {R : Type} (out : R → SV U.Ty × SHeap U) (sp : P → Spot U) : R ⊕ P → Leaf U
  | .inl r => .done (out r)
  | .inr q => .jump (sp q).c (sp q).K (sp q).st

theorem flow_runs {E : Env} {M : Mdl U} {A : Nat → Option (List Nat)} {call : CallF} (hU : UnivOK U E) (hM : MdlOK U M call) {f : FuncId} {fn : Func} {kk : Nat} {D : SSt U → Tr U (SV U.Ty × SHeap U)} {Z : St → V × Heap → Prop} (hD : ∀ st s, (D st).Runs s → Z (toSt U st) (toV U s.1, toH U s.2))
    {out : R → SV U.Ty × SHeap U} {N : Nat} (T : P → Tr U (R ⊕ P)) (sp : P → Spot U)
    (h : ∀ p, runT E M A f fn kk D N (.run (sp p).c) (sp p).K (sp p).st (sp p).sk = (T p).map (leafOf out sp)) {p : P} {r : R} (hr : flow T p = some r) :
    RunsV call E f fn kk Z (.run (sp p).c) (sp p).K (toSt U (sp p).st) (toV U (out r).1, toH U (out r).2) := by
  obtain ⟨n, hn⟩ := limO_some hr
  clear hr
  induction n generalizing p r with
  | zero => cases hn
  | succ n ih =>
    obtain ⟨l, h1, h2⟩ := den_runs hn
    have h3 := runs_map (g := leafOf out sp) h1
    rw [← h p] at h3
    refine runT_ok hU hM hD N _ _ _ _ _ h3 ?_
    cases l with
    | inl a =>
      simp only [flowJ, Option.some.injEq] at h2
      subst h2
      rfl
    | inr q => exact ih h2

end

def outP {U : Univ} (rt : Nat) (r : U.Ty rt) : SV U.Ty × SHeap U := (U.encS rt r, [])

/-- **A function that is given as a flow.** -/
theorem fn_flow {U : Univ} {P : Program} {gl : Nat → Option (List V)} {f : FuncId} {mods : FuncId → Option (Mod U)} {hmods : FuncId → List FuncId → Option (HMod U)} {E0 : Env} (hE0 : E0.glob = gl) (hU : UnivOK U (EV P gl f mods hmods)) (hmix : P.follows .mixedOrders = true) {fn : Func} {c : Code}
    (hok : ∀ g m, mods g = some m → FnOK P E0 g m) (hhok : ∀ g k m, hmods g k = some m → HFnOK P E0 g m) (hfn : P.funcs[f]? = some fn) (hname : (fn.name == "runtime.NumGoroutine") = false) (hb : fn.body = some c) (hcalm : calmC (EV P gl f mods hmods) f c = true) (m : Mod U)
    {Pt : Type} {A : Nat → Option (List Nat)} {N : Nat} (T : Pt → Tr U (U.Ty m.rt ⊕ Pt)) (sp : Pt → Spot U)
    (h : ∀ p, runT (EV P gl f mods hmods) (mdlOf mods hmods) A f fn 0 (doneP (EV P gl f mods hmods) fn) N (.run (sp p).c) (sp p).K (sp p).st (sp p).sk = (T p).map (leafOf (outP m.rt) sp))
    (b0 : Args U m.ts → Pt) (hm : ∀ x, m.fn x = flow T (b0 x)) (hsp : ∀ x, sp (b0 x) = ⟨c, [], entryS m.ts x fn.ntmps, false⟩) : FnOK P E0 f m := by
  refine fn_ok hE0 hU hmix hok hhok hfn hname hb hcalm m fun x a hx => ?_
  rw [hm] at hx
  have := flow_runs hU (EV_mdl hU) (fun st s hs => doneP_ok hU hs) T sp h hx
  rw [hsp] at this
  simp only [outP, hU.encS] at this
  exact this

/-- **The same of a function that is given boxes.** -/
theorem hfn_flow {U : Univ} {P : Program} {gl : Nat → Option (List V)} {f : FuncId} {mods : FuncId → Option (Mod U)} {hmods : FuncId → List FuncId → Option (HMod U)} {E0 : Env} (hE0 : E0.glob = gl) (hU : UnivOK U (EV P gl f mods hmods)) (hmix : P.follows .mixedOrders = true) {fn : Func} {c : Code}
    (hok : ∀ g m, mods g = some m → FnOK P E0 g m) (hhok : ∀ g k m, hmods g k = some m → HFnOK P E0 g m) (hfn : P.funcs[f]? = some fn) (hname : (fn.name == "runtime.NumGoroutine") = false) (hb : fn.body = some c) (hcalm : calmC (EV P gl f mods hmods) f c = true) (m : HMod U)
    {fa : List (List Fk)} {fb : List Bf} {k : Nat} (hk : ∀ x : m.sin.X U, (m.sin.enc x).2.length = k) {Pt : Type} {A : Nat → Option (List Nat)} {N : Nat} (T : Pt → Tr U (U.Ty m.ky ⊕ Pt)) (sp : Pt → Spot U)
    (h : ∀ p, runT (EV P gl f mods hmods) (mdlOf mods hmods) A f fn k (doneH (EV P gl f mods hmods) fn fa fb k) N (.run (sp p).c) (sp p).K (sp p).st (sp p).sk = (T p).map (leafOf m.out sp))
    (b0 : m.sin.X U → Pt) (hm : ∀ x : m.sin.X U, m.fn x = flow T (b0 x)) (hsp : ∀ x : m.sin.X U, sp (b0 x) = ⟨c, [], entryH (m.sin.enc x) fn.ntmps, false⟩) : HFnOK P E0 f m := by
  refine hfn_ok hE0 hU hmix hok hhok hfn hname hb hcalm m hk (fa := fa) (fb := fb) fun x y hx => ?_
  rw [hm] at hx
  have := flow_runs hU (EV_mdl hU) (fun st s hs => doneH_ok hU hs) T sp h hx
  rw [hsp] at this
  exact this

end Go.Proofs.YtkepnndakhpgoaaGreatDoor.Le

/-
  Marked regions at which slots and boxes are made ready to a given shape; ends of a given shape.
-/
namespace Go.Proofs.YtkepnndakhpgoaaGreatDoor.Le
set_option linter.unusedVariables false
set_option linter.unusedSimpArgs false

/-- What is kept at a marked region, and its shape. -/
structure Lay where
  keep : List Nat
  fa : List (List Fk)
  fb : List Bf
  sh : Shape

section
variable {U : Univ}

def chkAll {L : Type} (bs : List Bool) (t : Tr U L) : Tr U L := match bs with
  | [] => t
  | c :: cs => .chk (andAll (c :: cs)) t

theorem chkAll_runs {L : Type} {bs : List Bool} {t : Tr U L} {l : L} (h : (chkAll bs t).Runs l) : (∀ b ∈ bs, b = true) ∧ t.Runs l := by
  cases bs with
  | nil => exact ⟨by intro b hb; simp at hb, h⟩
  | cons c cs => exact ⟨andAll_mem h.1, h.2⟩

def layT (kk : Nat) (l : Lay) (st : SSt U) : Tr U (SSt U) :=
  (packS l.fa l.fb kk (l.keep.map fun i => st.s.getD i .und) st.H).andThen fun r =>
    .when (r.1.take kk = List.range kk) (match l.sh.dec (renFSs (r.1.idxOf ·) r.2.1) (subHS r.2.2 r.1) with
      | some x => chkAll x.2 (.leaf ⟨spread .und st.s.length l.keep (l.sh.enc x.1).1, (l.sh.enc x.1).2⟩)
      | none => .fail)

theorem toVs_keep (s : List (SV U.Ty)) (keep : List Nat) : toVs U (keep.map fun i => s.getD i .und) = keep.map fun i => (toVs U s).getD i .und := by
  induction keep with
  | nil => rfl
  | cons i keep ih => simp only [List.map_cons, toVs, ih, ← toVs_getD]

theorem layT_ok {E : Env} (hU : UnivOK U E) {kk : Nat} {l : Lay} {st st' : SSt U} (h : (layT kk l st).Runs st') : ∃ ids as H2, pack l.fa l.fb kk (l.keep.map fun i => (toSt U st).s.getD i .und) (toSt U st).H = some (ids, as, H2) ∧ ids.take kk = List.range kk ∧
    toSt U st' = ⟨spread .und (toSt U st).s.length l.keep (renFs (ids.idxOf ·) as), subH H2 ids⟩ := by
  simp only [layT, runs_andThen, runs_when] at h
  obtain ⟨p, hp, hk, h⟩ := h
  have hp' := packS_ok hp
  rw [toVs_keep] at hp'
  split at h
  · rename_i x hx
    obtain ⟨hb, h⟩ := chkAll_runs h
    simp only [Tr.Runs] at h
    subst h
    obtain ⟨e1, e2⟩ := Shape.dec_ok hU hx hb
    refine ⟨_, _, _, hp', hk, ?_⟩
    rw [renFs_toV] at e1
    rw [subHS_toH] at e2
    simp only [toSt]
    rw [e1, e2, length_toVs]
    congr 1
    rw [toVs_map, spread_map, ← toVs_map]
    rfl
  · simp [Tr.Runs] at h

/-- The end of a call that is given boxes, of a given shape. -/
def doneX (E : Env) (fn : Func) (fa : List (List Fk)) (fb : List Bf) (k : Nat) (sh : Shape) (one : Bool) (st : SSt U) : Tr U (SV U.Ty × SHeap U) :=
  (doneH E fn fa fb k st).andThen fun r => match one, r.1 with
    | true, .tup _ => .fail
    | true, v => (match sh.dec [v] r.2 with
      | some x => chkAll x.2 (.leaf ((sh.enc x.1).1.headD .und, (sh.enc x.1).2))
      | none => .fail)
    | false, .tup vs => (match sh.dec vs r.2 with
      | some x => chkAll x.2 (.leaf (.tup (sh.enc x.1).1, (sh.enc x.1).2))
      | none => .fail)
    | false, _ => .fail

theorem doneX_ok {E : Env} (hU : UnivOK U E) {fn : Func} {fa : List (List Fk)} {fb : List Bf} {k : Nat} {sh : Shape} {one : Bool} {st : SSt U} {r : SV U.Ty × SHeap U} (h : (doneX E fn fa fb k sh one st).Runs r) : Zh E fn fa fb k (toSt U st) (toV U r.1, toH U r.2) := by
  simp only [doneX, runs_andThen] at h
  obtain ⟨q, hq, h⟩ := h
  have hz := doneH_ok hU hq
  have key : toV U q.1 = toV U r.1 ∧ toH U q.2 = toH U r.2 := by
    split at h
    · simp [Tr.Runs] at h
    · split at h
      · rename_i x hx
        obtain ⟨hb, h⟩ := chkAll_runs h
        simp only [Tr.Runs] at h
        subst h
        obtain ⟨e1, e2⟩ := Shape.dec_ok hU hx hb
        refine ⟨?_, e2⟩
        cases he : (sh.enc x.1).1 with
        | nil => rw [he] at e1; cases e1
        | cons y ys =>
          rw [he] at e1
          simp only [toVs, List.cons.injEq] at e1
          exact e1.1
      · simp [Tr.Runs] at h
    · rename_i vs hvs
      split at h
      · rename_i x hx
        obtain ⟨hb, h⟩ := chkAll_runs h
        simp only [Tr.Runs] at h
        subst h
        obtain ⟨e1, e2⟩ := Shape.dec_ok hU hx hb
        refine ⟨?_, e2⟩
        rw [hvs]
        simp only [toV, e1]
      · simp [Tr.Runs] at h
    · simp [Tr.Runs] at h
  rw [← key.1, ← key.2]
  exact hz

/-- What the code comes to from here on, up to the next marked regions. 'sk': the mark of the first region is passed over. -/
def runL (E : Env) (M : Mdl U) (A : Nat → Option Lay) (f : FuncId) (fn : Func) (kk : Nat) (D : SSt U → Tr U (SV U.Ty × SHeap U)) : Nat → Ctl → List Fr → SSt U → Bool → Tr U (Leaf U)
  | 0, _, _, _, _ => .fail
  | n + 1, .run c, K, st, sk =>
    match c with
    | .skip => runL E M A f fn kk D n .nxt K st sk
    | .region id ops draw =>
      let go : Tr U (Leaf U) := if draw then (if E.calm f id then (drawT E M ops st).andThen fun st' => runL E M A f fn kk D n .nxt K st' false else .fail)
        else (opsT E M ops (List.range ops.size) st).andThen fun st' => runL E M A f fn kk D n .nxt K st' false
      match sk with
      | true => go
      | false => match A id with
        | none => go
        | some l => (layT kk l st).andThen fun st' => .leaf (.jump (.region id ops draw) K st')
    | .seq a b => runL E M A f fn kk D n (.run a) (.seq b :: K) st sk
    | .cond c a b => match evS E st.s c with
      | .lit (.bool true) => runL E M A f fn kk D n (.run a) K st sk
      | .lit (.bool false) => runL E M A f fn kk D n (.run b) K st sk
      | .sb t => .br t (runL E M A f fn kk D n (.run a) K st sk) (runL E M A f fn kk D n (.run b) K st sk)
      | _ => .fail
    | .block id b => runL E M A f fn kk D n (.run b) (.blk id :: K) st sk
    | .loop b => runL E M A f fn kk D n (.run b) (.loop b :: K) st sk
    | .exit id => runL E M A f fn kk D n (.exit id) K st sk
    | .ret => runL E M A f fn kk D n .ret K st sk
    | _ => .fail
  | n + 1, .nxt, [], st, _ => (D st).andThen fun v => .leaf (.done v)
  | n + 1, .nxt, .seq c :: K, st, sk => runL E M A f fn kk D n (.run c) K st sk
  | n + 1, .nxt, .blk _ :: K, st, sk => runL E M A f fn kk D n .nxt K st sk
  | n + 1, .nxt, .loop b :: K, st, sk => runL E M A f fn kk D n (.run b) (.loop b :: K) st sk
  | n + 1, .exit id, .blk i :: K, st, sk => if id = i then runL E M A f fn kk D n .nxt K st sk else runL E M A f fn kk D n (.exit id) K st sk
  | n + 1, .exit id, _ :: K, st, sk => runL E M A f fn kk D n (.exit id) K st sk
  | n + 1, .exit _, [], _, _ => .fail
  | n + 1, .ret, [], st, _ => (D st).andThen fun v => .leaf (.done v)
  | n + 1, .ret, _ :: K, st, sk => runL E M A f fn kk D n .ret K st sk

theorem runL_ok {E : Env} {M : Mdl U} {A : Nat → Option Lay} {call : CallF} (hU : UnivOK U E) (hM : MdlOK U M call) {f : FuncId} {fn : Func} {kk : Nat} {D : SSt U → Tr U (SV U.Ty × SHeap U)} {Z : St → V × Heap → Prop} (hD : ∀ st s, (D st).Runs s → Z (toSt U st) (toV U s.1, toH U s.2)) {r : V × Heap} : ∀ (n : Nat) (ctl : Ctl) (K : List Fr) (st : SSt U) (sk : Bool) (l : Leaf U),
    (runL E M A f fn kk D n ctl K st sk).Runs l → LeafPost call E f fn kk Z l r → RunsV call E f fn kk Z ctl K (toSt U st) r := by
  intro n
  induction n with
  | zero => intro ctl K st sk l h; simp [runL, Tr.Runs] at h
  | succ n ih =>
    intro ctl K st sk l h hl
    cases ctl with
    | run c =>
      cases c with
      | skip => exact .skip (ih _ _ _ _ _ h hl)
      | region id ops draw =>
        simp only [runL] at h
        have go : (if draw = true then (if E.calm f id = true then (drawT E M ops st).andThen fun st' => runL E M A f fn kk D n .nxt K st' false else .fail)
            else (opsT E M ops (List.range ops.size) st).andThen fun st' => runL E M A f fn kk D n .nxt K st' false : Tr U (Leaf U)).Runs l → RunsV call E f fn kk Z (.run (.region id ops draw)) K (toSt U st) r := by
          intro hg
          cases draw with
          | true =>
            simp only [if_true] at hg
            by_cases hc : E.calm f id = true
            · rw [if_pos hc, runs_andThen] at hg
              obtain ⟨st1, h1, h2⟩ := hg
              exact .draw hc (drawT_ok hU hM h1) (ih _ _ _ _ _ h2 hl)
            · rw [if_neg hc] at hg
              simp [Tr.Runs] at hg
          | false =>
            simp only [Bool.false_eq_true, if_false] at hg
            rw [runs_andThen] at hg
            obtain ⟨st1, h1, h2⟩ := hg
            exact .region (opsT_ok hU hM h1) (ih _ _ _ _ _ h2 hl)
        cases sk with
        | true => exact go h
        | false =>
          simp only at h
          split at h
          · exact go h
          · rename_i l' hA
            simp only [runs_andThen, Tr.Runs] at h
            obtain ⟨st1, ht, rfl⟩ := h
            obtain ⟨ids, as, H2, h1, h2, h3⟩ := layT_ok hU ht
            have hl' : RunsV call E f fn kk Z (.run (.region id ops draw)) K (toSt U st1) r := hl
            rw [h3] at hl'
            exact .packd h1 h2 hl'
      | seq a b => exact .seq (ih _ _ _ _ _ h hl)
      | cond c a b =>
        simp only [runL] at h
        have hev : ev E (toSt U st).s c = toV U (evS E st.s c) := ev_toV E st.s c
        split at h
        · rename_i hc
          rw [hc] at hev
          exact .cond (t := true) hev (ih _ _ _ _ _ h hl)
        · rename_i hc
          rw [hc] at hev
          exact .cond (t := false) hev (ih _ _ _ _ _ h hl)
        · rename_i t hc
          rw [hc] at hev
          simp only [Tr.Runs] at h
          rcases h with ⟨rfl, h⟩ | ⟨rfl, h⟩
          · exact .cond (t := true) hev (ih _ _ _ _ _ h hl)
          · exact .cond (t := false) hev (ih _ _ _ _ _ h hl)
        · simp [Tr.Runs] at h
      | block id b => exact .block (ih _ _ _ _ _ h hl)
      | loop b => exact .loop (ih _ _ _ _ _ h hl)
      | exit id => exact .exit (ih _ _ _ _ _ h hl)
      | ret => exact .ret (ih _ _ _ _ _ h hl)
      | _ => simp [runL, Tr.Runs] at h
    | nxt =>
      cases K with
      | nil =>
        simp only [runL, runs_andThen, Tr.Runs] at h
        obtain ⟨v, h1, rfl⟩ := h
        have : r = (toV U v.1, toH U v.2) := hl
        rw [this]
        exact .finN (hD _ _ h1)
      | cons x K =>
        cases x with
        | seq c => exact .nseq (ih _ _ _ _ _ h hl)
        | blk i => exact .nblk (ih _ _ _ _ _ h hl)
        | loop b => exact .nloop (ih _ _ _ _ _ h hl)
    | exit id =>
      cases K with
      | nil => simp [runL, Tr.Runs] at h
      | cons x K =>
        cases x with
        | seq c => exact .eseq (ih _ _ _ _ _ h hl)
        | blk i =>
          simp only [runL] at h
          split at h
          · rename_i hi
            subst hi
            exact .eblk (ih _ _ _ _ _ h hl)
          · rename_i hi
            exact .epass hi (ih _ _ _ _ _ h hl)
        | loop b => exact .eloop (ih _ _ _ _ _ h hl)
    | ret =>
      cases K with
      | nil =>
        simp only [runL, runs_andThen, Tr.Runs] at h
        obtain ⟨v, h1, rfl⟩ := h
        have : r = (toV U v.1, toH U v.2) := hl
        rw [this]
        exact .finR (hD _ _ h1)
      | cons x K => exact .rany (ih _ _ _ _ _ h hl)

theorem flow_runsL {R P : Type} {E : Env} {M : Mdl U} {A : Nat → Option Lay} {call : CallF} (hU : UnivOK U E) (hM : MdlOK U M call) {f : FuncId} {fn : Func} {kk : Nat} {D : SSt U → Tr U (SV U.Ty × SHeap U)} {Z : St → V × Heap → Prop} (hD : ∀ st s, (D st).Runs s → Z (toSt U st) (toV U s.1, toH U s.2))
    {out : R → SV U.Ty × SHeap U} {N : Nat} (T : P → Tr U (R ⊕ P)) (sp : P → Spot U)
    (h : ∀ p, runL E M A f fn kk D N (.run (sp p).c) (sp p).K (sp p).st (sp p).sk = (T p).map (leafOf out sp)) {p : P} {r : R} (hr : flow T p = some r) :
    RunsV call E f fn kk Z (.run (sp p).c) (sp p).K (toSt U (sp p).st) (toV U (out r).1, toH U (out r).2) := by
  obtain ⟨n, hn⟩ := limO_some hr
  clear hr
  induction n generalizing p r with
  | zero => cases hn
  | succ n ih =>
    obtain ⟨l, h1, h2⟩ := den_runs hn
    have h3 := runs_map (g := leafOf out sp) h1
    rw [← h p] at h3
    refine runL_ok hU hM hD N _ _ _ _ _ h3 ?_
    cases l with
    | inl a =>
      simp only [flowJ, Option.some.injEq] at h2
      subst h2
      rfl
    | inr q => exact ih h2

end

/-- Where a marked region begins. -/
def spot {U : Univ} (c : Code) (p : List Nat) (n : Nat) (keep : List Nat) (e : List (SV U.Ty) × SHeap U) : Spot U := ⟨(nav c p []).1, (nav c p []).2, ⟨spread .und n keep e.1, e.2⟩, true⟩

/-- **A function that is given as a flow.** -/
theorem fn_flowL {U : Univ} {P : Program} {gl : Nat → Option (List V)} {f : FuncId} {mods : FuncId → Option (Mod U)} {hmods : FuncId → List FuncId → Option (HMod U)} {E0 : Env} (hE0 : E0.glob = gl) (hU : UnivOK U (EV P gl f mods hmods)) (hmix : P.follows .mixedOrders = true) {fn : Func} {c : Code}
    (hok : ∀ g m, mods g = some m → FnOK P E0 g m) (hhok : ∀ g k m, hmods g k = some m → HFnOK P E0 g m) (hfn : P.funcs[f]? = some fn) (hname : (fn.name == "runtime.NumGoroutine") = false) (hb : fn.body = some c) (hcalm : calmC (EV P gl f mods hmods) f c = true) (m : Mod U)
    {Pt : Type} {A : Nat → Option Lay} {N : Nat} (T : Pt → Tr U (U.Ty m.rt ⊕ Pt)) (sp : Pt → Spot U)
    (h : ∀ p, runL (EV P gl f mods hmods) (mdlOf mods hmods) A f fn 0 (doneP (EV P gl f mods hmods) fn) N (.run (sp p).c) (sp p).K (sp p).st (sp p).sk = (T p).map (leafOf (outP m.rt) sp))
    (b0 : Args U m.ts → Pt) (hm : ∀ x, m.fn x = flow T (b0 x)) (hsp : ∀ x, sp (b0 x) = ⟨c, [], entryS m.ts x fn.ntmps, false⟩) : FnOK P E0 f m := by
  refine fn_ok hE0 hU hmix hok hhok hfn hname hb hcalm m fun x a hx => ?_
  rw [hm] at hx
  have := flow_runsL hU (EV_mdl hU) (fun st s hs => doneP_ok hU hs) T sp h hx
  rw [hsp] at this
  simp only [outP, hU.encS] at this
  exact this

/-- **The same of a function that is given boxes.** -/
theorem hfn_flowL {U : Univ} {P : Program} {gl : Nat → Option (List V)} {f : FuncId} {mods : FuncId → Option (Mod U)} {hmods : FuncId → List FuncId → Option (HMod U)} {E0 : Env} (hE0 : E0.glob = gl) (hU : UnivOK U (EV P gl f mods hmods)) (hmix : P.follows .mixedOrders = true) {fn : Func} {c : Code}
    (hok : ∀ g m, mods g = some m → FnOK P E0 g m) (hhok : ∀ g k m, hmods g k = some m → HFnOK P E0 g m) (hfn : P.funcs[f]? = some fn) (hname : (fn.name == "runtime.NumGoroutine") = false) (hb : fn.body = some c) (hcalm : calmC (EV P gl f mods hmods) f c = true) (m : HMod U)
    {fa : List (List Fk)} {fb : List Bf} {k : Nat} (hk : ∀ x : m.sin.X U, (m.sin.enc x).2.length = k) {Pt : Type} {A : Nat → Option Lay} {N : Nat} (T : Pt → Tr U (U.Ty m.ky ⊕ Pt)) (sp : Pt → Spot U)
    (h : ∀ p, runL (EV P gl f mods hmods) (mdlOf mods hmods) A f fn k (doneX (EV P gl f mods hmods) fn fa fb k m.sout m.one) N (.run (sp p).c) (sp p).K (sp p).st (sp p).sk = (T p).map (leafOf m.out sp))
    (b0 : m.sin.X U → Pt) (hm : ∀ x : m.sin.X U, m.fn x = flow T (b0 x)) (hsp : ∀ x : m.sin.X U, sp (b0 x) = ⟨c, [], entryH (m.sin.enc x) fn.ntmps, false⟩) : HFnOK P E0 f m := by
  refine hfn_ok hE0 hU hmix hok hhok hfn hname hb hcalm m hk (fa := fa) (fb := fb) fun x y hx => ?_
  rw [hm] at hx
  have := flow_runsL hU (EV_mdl hU) (fun st s hs => doneX_ok hU hs) T sp h hx
  rw [hsp] at this
  exact this

end Go.Proofs.YtkepnndakhpgoaaGreatDoor.Le

/-
  From what a law is handed to values: arguments as they lie in memory are values of Lean's types.
-/
namespace Go.Proofs.YtkepnndakhpgoaaGreatDoor.Le
set_option linter.unusedVariables false
open Go.RowKit (Below)

/-! ### well-typed cells -/

def segsOf (P : Program) : TypeDesc → Option (List (Nat × TypeId))
  | .struct fs => some (fs.toList.map fun f => (f.offset, f.type))
  | .array n e => some ((List.range n).map fun i => (i * P.cellsOf e, e))
  | _ => none

def isRowT (P : Program) (t : TypeId) : Bool := match P.underlying t with | some d => d.isRow | none => false

def HasTy (P : Program) : Nat → TypeId → List V → Prop
  | 0, _, _ => False
  | d + 1, t, cs => match P.underlying t with
    | some .bool => ∃ b, cs = [.lit (.bool b)]
    | some (.int k) => ∃ n, cs = [.lit (.int k n)] ∧ (Lit.int k n).wf = true
    | some .string => ∃ s, cs = [.lit (.string s)] ∧ s.size ≤ maxLen
    | some (.slice e) => ∃ xs, cs = [.sl false (P.cellsOf e) xs] ∧ xs.length ≤ maxLen ∧ ∀ x ∈ xs, (if isRowT P e then ∃ ds, x = .agg ds else x.cells = [x]) ∧ HasTy P d e x.cells
    | some dd => match segsOf P dd with
      | some ss => cs.length = P.cellsOf t ∧ ∀ s ∈ ss, HasTy P d s.2 ((cs.drop s.1).take (P.cellsOf s.2))
      | none => False
    | none => False

def covers (P : Program) : Nat → List (Nat × TypeId) → Nat → Bool
  | off, [], n => off == n
  | off, s :: ss, n => s.1 == off && covers P (off + P.cellsOf s.2) ss n

/-- Types of scalars, rows and slices, laid out without gaps. -/
def plainTy (P : Program) : Nat → TypeId → Bool
  | 0, _ => false
  | d + 1, t => match P.underlying t with
    | some .bool => true
    | some (.int _) => true
    | some .string => true
    | some (.slice e) => plainTy P d e && decide (0 < P.cellsOf e)
    | some dd => match segsOf P dd with
      | some ss => ss.all (fun s => plainTy P d s.2) && covers P 0 ss (P.cellsOf t)
      | none => false
    | none => false

def allFz (w : World) : Nat → Nat → Prop := fun b c => ∃ u, w.cell? ⟨b, c, none⟩ = some u

structure Read (P : Program) (w : World) (d : Nat) (t : TypeId) (cs : List Value) (xs : List V) : Prop where
  reps : Reps (bare (allFz w)) w xs cs
  ty : HasTy P d t xs
  ok : ∀ x ∈ xs, fzV x = true
  one : ∀ u ∈ cs, u.oneCell' = true

theorem covers_le {P : Program} : ∀ {ss : List (Nat × TypeId)} {off n : Nat}, covers P off ss n = true → off ≤ n ∧ ∀ s ∈ ss, off ≤ s.1 ∧ s.1 + P.cellsOf s.2 ≤ n := by
  intro ss
  induction ss with
  | nil => intro off n h; simp only [covers, beq_iff_eq] at h; exact ⟨by omega, by simp⟩
  | cons s ss ih =>
    intro off n h
    simp only [covers, Bool.and_eq_true, beq_iff_eq] at h
    obtain ⟨h1, h2⟩ := h
    obtain ⟨h3, h4⟩ := ih h2
    refine ⟨by omega, fun x hx => ?_⟩
    rcases List.mem_cons.1 hx with rfl | hx
    · omega
    · have := h4 x hx; omega

theorem read_segs {P : Program} {w : World} {d : Nat} {cs : List Value} : ∀ {ss : List (Nat × TypeId)} {off : Nat}, covers P off ss cs.length = true → (∀ s ∈ ss, ∃ xs, Read P w d s.2 ((cs.drop s.1).take (P.cellsOf s.2)) xs) →
    ∃ xs, Reps (bare (allFz w)) w xs (cs.drop off) ∧ (∀ x ∈ xs, fzV x = true) ∧ (∀ u ∈ cs.drop off, u.oneCell' = true) ∧ ∀ s ∈ ss, HasTy P d s.2 ((xs.drop (s.1 - off)).take (P.cellsOf s.2)) := by
  intro ss
  induction ss with
  | nil =>
    intro off hc _
    simp only [covers, beq_iff_eq] at hc
    refine ⟨[], ?_, by simp, ?_, by simp⟩
    · rw [hc, List.drop_length]; exact .nil
    · rw [hc, List.drop_length]; simp
  | cons s ss ih =>
    intro off hc h
    simp only [covers, Bool.and_eq_true, beq_iff_eq] at hc
    obtain ⟨h1, h2⟩ := hc
    obtain ⟨x1, r1⟩ := h s (by simp)
    obtain ⟨x2, q1, q2, q3, q4⟩ := ih h2 (fun s' hs' => h s' (by simp [hs']))
    have hle := (covers_le h2).1
    rw [h1] at r1
    have hlen : x1.length = P.cellsOf s.2 := by
      have := r1.reps.length
      rw [List.length_take, List.length_drop] at this
      omega
    have hcut : cs.drop off = (cs.drop off).take (P.cellsOf s.2) ++ cs.drop (off + P.cellsOf s.2) := by
      rw [← List.drop_drop, List.take_append_drop]
    refine ⟨x1 ++ x2, ?_, ?_, ?_, ?_⟩
    · rw [hcut]; exact r1.reps.append q1
    · intro x hx
      rcases List.mem_append.1 hx with hx | hx
      · exact r1.ok x hx
      · exact q2 x hx
    · intro u hu
      rw [hcut] at hu
      rcases List.mem_append.1 hu with hu | hu
      · exact r1.one u hu
      · exact q3 u hu
    · intro s' hs'
      rcases List.mem_cons.1 hs' with rfl | hs'
      · rw [h1, Nat.sub_self, List.drop_zero, List.take_append_of_le_length (by omega), List.take_of_length_le (by omega)]
        exact r1.ty
      · have hge := ((covers_le h2).2 s' hs').1
        have : s'.1 - off = x1.length + (s'.1 - (off + P.cellsOf s.2)) := by omega
        rw [this, List.drop_append]
        have e1 : x1.drop (x1.length + (s'.1 - (off + P.cellsOf s.2))) = [] := List.drop_eq_nil_of_le (by omega)
        rw [e1, List.nil_append]
        have e2 : x1.length + (s'.1 - (off + P.cellsOf s.2)) - x1.length = s'.1 - (off + P.cellsOf s.2) := by omega
        rw [e2]
        exact q4 s' hs'

theorem flat_rows {us : List Value} {cc : List (List Value)} (h : us.map (fun u => u.cells.toList) = cc) : flat us = cc.flatten := by
  rw [← h]
  simp [flat, List.flatMap_def]

/-- The value of a type's cells. -/
def argV (P : Program) (t : TypeId) (xs : List V) : V := if isRowT P t then .agg xs else xs.headD .no
def argU (P : Program) (t : TypeId) (cs : List Value) : Value := if isRowT P t then .agg cs.toArray else cs.headD undef

theorem HasTy.single {P : Program} {d : Nat} {t : TypeId} {xs : List V} (h : HasTy P d t xs) (hr : isRowT P t = false) : ∃ x, xs = [x] ∧ x.cells = [x] := by
  cases d with
  | zero => exact h.elim
  | succ d =>
    unfold HasTy at h
    unfold isRowT at hr
    split at h
    · obtain ⟨b, rfl⟩ := h; exact ⟨_, rfl, rfl⟩
    · obtain ⟨n, rfl, _⟩ := h; exact ⟨_, rfl, rfl⟩
    · obtain ⟨s, rfl, _⟩ := h; exact ⟨_, rfl, rfl⟩
    · obtain ⟨ys, rfl, _⟩ := h; exact ⟨_, rfl, rfl⟩
    · rename_i dd _ _ _ _ hd
      rw [hd] at hr
      split at h
      · rename_i ss hss
        unfold segsOf at hss
        split at hss
        · simp [TypeDesc.isRow] at hr
        · simp [TypeDesc.isRow] at hr
        · cases hss
      · exact h.elim
    · exact h.elim

theorem Read.arg {P : Program} {w : World} {d : Nat} {t : TypeId} {cs : List Value} {xs : List V} (h : Read P w d t cs xs) :
    Reps (bare (allFz w)) w [argV P t xs] [argU P t cs] ∧ fzV (argV P t xs) = true ∧ (argU P t cs).cells.toList = cs ∧ (argV P t xs).cells = xs ∧ (if isRowT P t then ∃ ds, argV P t xs = .agg ds else (argV P t xs).cells = [argV P t xs]) := by
  unfold argV argU
  cases hr : isRowT P t with
  | true =>
    simp only [if_true]
    refine ⟨?_, ?_, by simp [Value.cells], rfl, ⟨xs, rfl⟩⟩
    · have := Reps.agg h.reps h.one (xs := []) (vs := []) .nil
      exact this
    · simp only [fzV, okV, noRef, Bool.true_and]
      rw [noRefs_iff]
      exact fun x hx => fzV_noRef (h.ok x hx)
  | false =>
    simp only [Bool.false_eq_true, if_false]
    obtain ⟨x, rfl, hx⟩ := h.ty.single hr
    obtain ⟨u, us, rfl, h1, h2⟩ := h.reps.cons_left
    have : us = [] := h2.nil_left
    subst this
    refine ⟨h1, h.ok x (by simp), ?_, hx, hx⟩
    have hone := h.one u (by simp)
    simp only [List.headD_cons]
    cases u <;> simp_all [Value.cells, Value.oneCell']

section
variable {H : Type} {enc : TypeId × Value → H} {P : Program} {w : World} {base : Nat} {held : Bool}

theorem read_ok : ∀ (d : Nat) (t : TypeId) (n : Nat) (cs : List Value) (x : DataW H × List MemPlace), plainTy P d t = true → DataW.trod enc P w base (fun _ => true) held n t cs = some x → ∃ xs, Read P w d t cs xs := by
  intro d
  induction d with
  | zero => intro t n cs x h; simp [plainTy] at h
  | succ d ih =>
    intro t n cs x hp h
    unfold plainTy at hp
    split at hp
    · rename_i ht
      obtain ⟨b, rfl, _⟩ := DataW.trod_bool ht h
      exact ⟨[.lit (.bool b)], .lit rfl .nil, by unfold HasTy; rw [ht]; exact ⟨b, rfl⟩, by simp [fzV, okV, noRef], by simp [Value.oneCell']⟩
    · rename_i k ht
      obtain ⟨m, rfl, _, hw⟩ := DataW.trod_int ht h
      exact ⟨[.lit (.int k m)], .lit (by simp [leaf, hw]) .nil, by unfold HasTy; rw [ht]; exact ⟨m, rfl, hw⟩, by simp [fzV, okV, noRef], by simp [Value.oneCell']⟩
    · rename_i ht
      obtain ⟨s, rfl, _, hs⟩ := DataW.trod_string ht h
      exact ⟨[.lit (.string s)], .lit (by simp [leaf, hs]) .nil, by unfold HasTy; rw [ht]; exact ⟨s, rfl, hs⟩, by simp [fzV, okV, noRef], by simp [Value.oneCell']⟩
    · rename_i e ht
      simp only [Bool.and_eq_true, decide_eq_true_eq] at hp
      obtain ⟨hpe, hpos⟩ := hp
      have mk : ∀ (v : Value) (es : List V), Reps (bare (allFz w)) w [.sl false (P.cellsOf e) es] [v] → v.oneCell' = true → es.length ≤ maxLen → (∀ y ∈ es, fzV y = true) →
          (∀ y ∈ es, (if isRowT P e then ∃ ds, y = .agg ds else y.cells = [y]) ∧ HasTy P d e y.cells) → ∃ xs, Read P w (d + 1) t [v] xs := by
        intro v es h1 h2 h3 h4 h5
        refine ⟨_, h1, ?_, ?_, by simpa using h2⟩
        · unfold HasTy; rw [ht]; exact ⟨es, rfl, h3, h5⟩
        · intro y hy
          simp only [List.mem_singleton] at hy
          subst hy
          simp only [fzV, okV, noRef, Bool.true_and]
          rw [noRefs_iff]
          exact fun z hz => fzV_noRef (h4 z hz)
      rcases DataW.trod_slice ht h with ⟨rfl, _⟩ | ⟨a, len, cap, elems, rest, m, rfl, rfl, _, hb, hlc, hcm, hel, helem, hrest, _⟩
      · exact mk _ [] (.slnil .nil) rfl (by simp) (by simp) (by simp)
      · obtain ⟨hrl, hrest⟩ := hrest rfl
        by_cases hc0 : cap = 0
        · subst hc0
          have : len = 0 := by omega
          subst this
          exact mk _ [] (.slemp a .nil) rfl (by simp) (by simp) (by simp)
        · -- the first place is read
          have hspot : a.spot = none := by
            have hfirst : ∃ c0, w.cells? base (a.add 0) (P.cellsOf e) = some c0 := by
              by_cases hl0 : 0 < len
              · have := helem 0 hl0
                rw [Nat.zero_mul] at this
                have hlt : 0 < elems.length := by omega
                rw [List.getElem?_eq_getElem hlt] at this
                cases hq : w.cells? base (a.add 0) (P.cellsOf e) with
                | none => simp [hq] at this
                | some c0 => exact ⟨c0, rfl⟩
              · have hl0 : len = 0 := by omega
                subst hl0
                have := hrest 0 (by omega)
                simp only [Nat.zero_add, Nat.zero_mul] at this
                have hlt : 0 < rest.length := by omega
                rw [List.getElem?_eq_getElem hlt] at this
                cases hq : w.cells? base (a.add 0) (P.cellsOf e) with
                | none => simp [hq] at this
                | some c0 => exact ⟨c0, rfl⟩
            obtain ⟨c0, hc0'⟩ := hfirst
            obtain ⟨_, e2, e3⟩ := World.cells?_some hc0'
            have := e3 0 hpos
            have hlt : 0 < c0.length := by omega
            rw [List.getElem?_eq_getElem hlt] at this
            simp only [Addr.add, if_true] at this
            unfold World.cell? at this
            split at this
            · cases hs : a.spot with
              | none => rfl
              | some s => simp [hs] at this
            · cases this
          obtain ⟨ab, ao, as⟩ := a
          simp only at hspot
          subst hspot
          -- the elements
          have each : ∀ i, i < len → ∃ ci xi, w.cells? base (Addr.add ⟨ab, ao, none⟩ (i * P.cellsOf e)) (P.cellsOf e) = some ci ∧ Read P w d e ci xi := by
            intro i hi
            have := helem i hi
            have hlt : i < elems.length := by omega
            rw [List.getElem?_eq_getElem hlt] at this
            cases hq : w.cells? base (Addr.add ⟨ab, ao, none⟩ (i * P.cellsOf e)) (P.cellsOf e) with
            | none => simp [hq] at this
            | some ci =>
              simp only [hq, Option.bind_some] at this
              obtain ⟨xi, hxi⟩ := ih e m ci _ hpe this
              exact ⟨ci, xi, rfl, hxi⟩
          have list : ∀ k, k ≤ len → ∃ (es : List V) (us : List Value), es.length = k ∧ Reps (bare (allFz w)) w es us ∧ (∀ y ∈ es, fzV y = true) ∧ (∀ u ∈ us, u.cells.size = P.cellsOf e) ∧ (∀ u ∈ flat us, u.oneCell' = true) ∧
              (∀ y ∈ es, (if isRowT P e then ∃ ds, y = .agg ds else y.cells = [y]) ∧ HasTy P d e y.cells) ∧ (∀ j u, (flat us)[j]? = some u → w.cell? ⟨ab, ao + j, none⟩ = some u) := by
            intro k
            induction k with
            | zero => intro _; exact ⟨[], [], rfl, .nil, by simp, by simp, by simp [flat], by simp, by simp [flat]⟩
            | succ k ihk =>
              intro hk
              obtain ⟨es, us, l1, l2, l3, l4, l5, l6, l7⟩ := ihk (by omega)
              obtain ⟨ci, xi, hci, hr⟩ := each k (by omega)
              obtain ⟨a1, a2, a3, a4, a5⟩ := hr.arg
              obtain ⟨_, c2, c3⟩ := World.cells?_some hci
              have hsz : (argU P e ci).cells.size = P.cellsOf e := by
                have := congrArg List.length a3
                simpa [c2] using this
              refine ⟨es ++ [argV P e xi], us ++ [argU P e ci], by simp [l1], l2.append a1, ?_, ?_, ?_, ?_, ?_⟩
              · intro y hy
                rcases List.mem_append.1 hy with hy | hy
                · exact l3 y hy
                · rw [List.mem_singleton.1 hy]; exact a2
              · intro u hu
                rcases List.mem_append.1 hu with hu | hu
                · exact l4 u hu
                · rw [List.mem_singleton.1 hu]; exact hsz
              · intro u hu
                rw [flat_append] at hu
                rcases List.mem_append.1 hu with hu | hu
                · exact l5 u hu
                · rw [single_flat, a3] at hu
                  exact hr.one u hu
              · intro y hy
                rcases List.mem_append.1 hy with hy | hy
                · exact l6 y hy
                · rw [List.mem_singleton.1 hy]; exact ⟨a5, by rw [a4]; exact hr.ty⟩
              · intro j u hj
                rw [flat_append, single_flat, a3] at hj
                have hfl : (flat us).length = k * P.cellsOf e := by rw [flat_length l4, ← l2.length, l1]
                by_cases hlt : j < (flat us).length
                · rw [List.getElem?_append_left hlt] at hj
                  exact l7 j u hj
                · rw [List.getElem?_append_right (by omega)] at hj
                  have hjl : j - (flat us).length < P.cellsOf e := by
                    have := (List.getElem?_eq_some_iff.1 hj).1
                    omega
                  have := c3 _ hjl
                  rw [hj] at this
                  rw [← this]
                  congr 1
                  have hadd : Addr.add (Addr.add ⟨ab, ao, none⟩ (k * P.cellsOf e)) (j - (flat us).length) = ⟨ab, ao + j, none⟩ := by
                    simp only [Addr.add]
                    split <;> split <;> simp <;> omega
                  rw [hadd]
          obtain ⟨es, us, l1, l2, l3, l4, l5, l6, l7⟩ := list len (Nat.le_refl _)
          subst l1
          refine mk _ es ?_ rfl (by omega) l3 l6
          exact .sl ab ao cap (P.cellsOf e) l2 l3 l4 l5 hlc hcm (fun j u hj => ⟨⟨u, l7 j u hj⟩, l7 j u hj⟩) .nil
    · rename_i dd _ _ _ _ ht
      split at hp
      · rename_i ss hss
        simp only [Bool.and_eq_true, List.all_eq_true] at hp
        obtain ⟨hall, hcov⟩ := hp
        have parts : cs.length = P.cellsOf t ∧ ∀ s ∈ ss, ∃ xs, Read P w d s.2 ((cs.drop s.1).take (P.cellsOf s.2)) xs := by
          cases dd with
          | struct fs =>
            simp only [segsOf, Option.some.injEq] at hss
            obtain ⟨xs, m, _, _, hlen, hxl, hf⟩ := DataW.trod_struct ht h
            refine ⟨hlen, fun s hs => ?_⟩
            have hs' := hs
            rw [← hss] at hs
            obtain ⟨f, hfm, rfl⟩ := List.mem_map.1 hs
            obtain ⟨i, hi, hfi⟩ := List.getElem_of_mem hfm
            have hfi' : fs[i]? = some f := by simp at hi; rw [Array.getElem?_eq_getElem hi]; simp at hfi; rw [hfi]
            have := hf i f hfi'
            have hlt : i < xs.length := by simp at hi; omega
            rw [List.getElem?_eq_getElem hlt] at this
            exact ih f.type m _ _ (hall _ hs') this
          | array n' e =>
            simp only [segsOf, Option.some.injEq] at hss
            obtain ⟨xs, m, _, _, hlen, hxl, hf⟩ := DataW.trod_array ht h
            refine ⟨hlen, fun s hs => ?_⟩
            have hs' := hs
            rw [← hss] at hs
            obtain ⟨i, hi, rfl⟩ := List.mem_map.1 hs
            have hin : i < n' := by simpa using hi
            have := hf i hin
            have hlt : i < xs.length := by omega
            rw [List.getElem?_eq_getElem hlt] at this
            exact ih e m _ _ (hall _ hs') this
          | _ => simp [segsOf] at hss
        obtain ⟨hlen, hparts⟩ := parts
        obtain ⟨xs, h1, h2, h3, h4⟩ := read_segs (by rw [hlen]; exact hcov) hparts
        rw [List.drop_zero] at h1 h3
        refine ⟨xs, h1, ?_, h2, h3⟩
        unfold HasTy
        rw [ht]
        simp only [Nat.sub_zero] at h4
        split <;> first | (rename_i hq; simp only [Option.some.injEq] at hq; subst hq; simp [segsOf] at hss; done) | skip
        · rename_i hq
          simp only [Option.some.injEq] at hq
          subst hq
          rw [hss]
          exact ⟨by rw [h1.length]; exact hlen, h4⟩
        · rename_i hq; cases hq
      · cases hp
    · cases hp

/-- Arguments as they are read. -/
inductive ArgsRead (P : Program) (d : Nat) : List TypeId → List V → Prop where
  | nil : ArgsRead P d [] []
  | cons {t ts xs as} : HasTy P d t xs → ArgsRead P d ts as → ArgsRead P d (t :: ts) (argV P t xs :: as)

theorem okWide_arg {r : Reach} {b0 : Nat} {d : Nat} {t : TypeId} {v : Value} {xs : List V} (hv : Value.okWide P w r b0 t v) (h : Read P w d t v.cells.toList xs) : argU P t v.cells.toList = v := by
  unfold argU
  cases hr : isRowT P t with
  | true =>
    simp only [if_true]
    unfold isRowT at hr
    split at hr
    · rename_i dd hd
      unfold Value.okWide at hv
      rw [hd] at hv
      cases dd <;> simp [TypeDesc.isRow] at hr
      · obtain ⟨cs, rfl, _⟩ := hv; simp [Value.cells]
      · obtain ⟨cs, rfl, _⟩ := hv; simp [Value.cells]
    · cases hr
  | false =>
    simp only [Bool.false_eq_true, if_false]
    obtain ⟨x, rfl, _⟩ := h.ty.single hr
    have hne : ∀ cs, v ≠ .agg cs := by
      rintro cs rfl
      unfold isRowT at hr
      unfold Value.okWide at hv
      split at hv
      · rename_i hd; rw [hd] at hr; simp [TypeDesc.isRow] at hr
      · rename_i hd; rw [hd] at hr; simp [TypeDesc.isRow] at hr
      · unfold Cell.okWide at hv
        split at hv <;> simp_all [Cell.ok]
    cases v <;> first | rfl | exact absurd rfl (hne _)

theorem args_ok {d : Nat} : ∀ {ts : List TypeId} {vs : List Value} {ds : List (DataW H)} {ps : List MemPlace}, DataW.TrodAll enc P w base (fun _ => true) held ts vs ds ps → (∀ t ∈ ts, plainTy P d t = true) →
    (∀ (j : Nat) t v, ts[j]? = some t → vs[j]? = some v → ∃ r b0, Value.okWide P w r b0 t v) → ∃ as, Reps (bare (allFz w)) w as vs ∧ ArgsRead P d ts as := by
  intro ts
  induction ts with
  | nil =>
    intro vs ds ps h _ _
    cases vs with
    | nil => exact ⟨[], .nil, .nil⟩
    | cons v vs => cases ds <;> exact h.elim
  | cons t ts ih =>
    intro vs ds ps h hp hv
    cases vs with
    | nil => exact h.elim
    | cons v vs =>
      cases ds with
      | nil => exact h.elim
      | cons d0 ds =>
        obtain ⟨p, q, ⟨fuel, h1⟩, h2, _⟩ := h
        obtain ⟨as, r1, r2⟩ := ih h2 (fun t' ht' => hp t' (by simp [ht'])) (fun j t' v' hj hj' => hv (j + 1) t' v' (by simpa using hj) (by simpa using hj'))
        obtain ⟨xs, hx⟩ := read_ok d t fuel _ _ (hp t (by simp)) h1
        obtain ⟨r, b0, hok⟩ := hv 0 t v rfl rfl
        have ha := hx.arg.1
        rw [okWide_arg hok hx] at ha
        exact ⟨_, Reps.cons_iff.2 ⟨ha, r1⟩, .cons hx.ty r2⟩

end

end Go.Proofs.YtkepnndakhpgoaaGreatDoor.Le

/-
  A law's statement out of what its function comes to: arguments of Lean's types, a contract for the row.
-/
namespace Go.Proofs.YtkepnndakhpgoaaGreatDoor.Le
set_option linter.unusedVariables false
open Go.RowKit (Below)
open Go.ChangeShapes

/-! ### values of Lean's types out of cells -/

structure CodecRd (P : Program) {Ty : Nat → Type} {T : Type} (c : Codec Ty T) (t : TypeId) (wf : T → Prop) : Prop where
  rd : ∀ (d : Nat) (xs : List V), HasTy P d t xs → ∃ a, c.encV a = xs ∧ wf a

structure SegRd (P : Program) {Ty : Nat → Type} {T : Type} (c : Codec Ty T) (ss : List (Nat × TypeId)) (off n : Nat) (wf : T → Prop) : Prop where
  rd : ∀ (d : Nat) (xs : List V), xs.length = n → (∀ s ∈ ss, HasTy P d s.2 ((xs.drop s.1).take (P.cellsOf s.2))) → ∃ a, c.encV a = xs.drop off ∧ wf a

def WI (k : IntKind) (a : Int) : Prop := (Lit.int k a).wf = true
def WB (_ : Bool) : Prop := True
def WS (s : ByteArray) : Prop := s.size ≤ maxLen
def WL {α : Type} (p : α → Prop) (xs : List α) : Prop := xs.length ≤ maxLen ∧ ∀ x ∈ xs, p x
def WU (_ : Unit) : Prop := True

section
variable {P : Program} {Ty : Nat → Type} {T : Type}

theorem CodecRd.int {k : IntKind} {t : TypeId} (ht : P.underlying t = some (.int k)) : CodecRd P (Codec.int k : Codec Ty Int) t (WI k) := by
  refine ⟨fun d xs h => ?_⟩
  cases d with
  | zero => exact h.elim
  | succ d =>
    unfold HasTy at h
    rw [ht] at h
    obtain ⟨n, rfl, hw⟩ := h
    exact ⟨n, rfl, hw⟩

theorem CodecRd.bool {t : TypeId} (ht : P.underlying t = some .bool) : CodecRd P (Codec.bool : Codec Ty Bool) t WB := by
  refine ⟨fun d xs h => ?_⟩
  cases d with
  | zero => exact h.elim
  | succ d =>
    unfold HasTy at h
    rw [ht] at h
    obtain ⟨n, rfl⟩ := h
    exact ⟨n, rfl, trivial⟩

theorem CodecRd.str {t : TypeId} (ht : P.underlying t = some .string) : CodecRd P (Codec.str : Codec Ty ByteArray) t WS := by
  refine ⟨fun d xs h => ?_⟩
  cases d with
  | zero => exact h.elim
  | succ d =>
    unfold HasTy at h
    rw [ht] at h
    obtain ⟨n, rfl, hw⟩ := h
    exact ⟨n, rfl, hw⟩

theorem list_rd {α : Type} {p : α → Prop} {e : α → V} : ∀ {xs : List V}, (∀ x ∈ xs, ∃ a, e a = x ∧ p a) → ∃ as : List α, as.map e = xs ∧ ∀ a ∈ as, p a := by
  intro xs
  induction xs with
  | nil => intro _; exact ⟨[], rfl, by simp⟩
  | cons x xs ih =>
    intro h
    obtain ⟨a, ha, hp⟩ := h x (by simp)
    obtain ⟨as, has, hps⟩ := ih (fun y hy => h y (by simp [hy]))
    refine ⟨a :: as, by simp [ha, has], fun b hb => ?_⟩
    rcases List.mem_cons.1 hb with rfl | hb
    · exact hp
    · exact hps b hb

theorem CodecRd.rows {t e n : Nat} {c : Codec Ty (Ty e)} {wf : Ty e → Prop} (ht : P.underlying t = some (.slice e)) (hn : P.cellsOf e = n) (hr : isRowT P e = true) (hc : CodecRd P c e wf) :
    CodecRd P (Codec.list e n (fun a => .agg (c.encV a)) : Codec Ty (List (Ty e))) t (WL wf) := by
  refine ⟨fun d xs h => ?_⟩
  cases d with
  | zero => exact h.elim
  | succ d =>
    unfold HasTy at h
    rw [ht] at h
    obtain ⟨ys, rfl, hl, hy⟩ := h
    obtain ⟨as, has, hp⟩ := list_rd (p := wf) (e := fun a => V.agg (c.encV a)) (xs := ys) (fun y hy' => by
      obtain ⟨h1, h2⟩ := hy y hy'
      rw [if_pos hr] at h1
      obtain ⟨ds, rfl⟩ := h1
      obtain ⟨a, ha, hw⟩ := hc.rd d _ h2
      exact ⟨a, by rw [ha]; rfl, hw⟩)
    subst hn
    exact ⟨as, by simp only [Codec.list, has], by rw [← List.length_map (f := fun a => V.agg (c.encV a)), has]; exact hl, hp⟩

theorem CodecRd.ones {t e n : Nat} {c : Codec Ty (Ty e)} {wf : Ty e → Prop} (ht : P.underlying t = some (.slice e)) (hn : P.cellsOf e = n) (hr : isRowT P e = false) (hc : CodecRd P c e wf) :
    CodecRd P (Codec.list e n (fun a => c.oneV a) : Codec Ty (List (Ty e))) t (WL wf) := by
  refine ⟨fun d xs h => ?_⟩
  cases d with
  | zero => exact h.elim
  | succ d =>
    unfold HasTy at h
    rw [ht] at h
    obtain ⟨ys, rfl, hl, hy⟩ := h
    obtain ⟨as, has, hp⟩ := list_rd (p := wf) (e := fun a => c.oneV a) (xs := ys) (fun y hy' => by
      obtain ⟨h1, h2⟩ := hy y hy'
      rw [if_neg (by simp [hr])] at h1
      obtain ⟨a, ha, hw⟩ := hc.rd d _ h2
      exact ⟨a, by simp only [Codec.oneV, ha, h1]; rfl, hw⟩)
    subst hn
    exact ⟨as, by simp only [Codec.list, has], by rw [← List.length_map (f := fun a => c.oneV a), has]; exact hl, hp⟩

theorem SegRd.unit {off n : Nat} (h : off = n) : SegRd P (Codec.unit : Codec Ty Unit) [] off n WU := by
  refine ⟨fun d xs hl _ => ⟨(), ?_, trivial⟩⟩
  subst h
  rw [← hl, List.drop_length]
  rfl

theorem SegRd.pair {A B : Type} {a : Codec Ty A} {b : Codec Ty B} {t off n k : Nat} {ss : List (Nat × TypeId)} {wa : A → Prop} {wb : B → Prop} (ha : CodecRd P a t wa) (hk : P.cellsOf t = k) (hb : SegRd P b ss (off + k) n wb) :
    SegRd P (Codec.pair a b) ((off, t) :: ss) off n (fun x => wa x.1 ∧ wb x.2) := by
  refine ⟨fun d xs hl h => ?_⟩
  obtain ⟨x, hx, hwx⟩ := ha.rd d _ (h (off, t) (by simp))
  obtain ⟨y, hy, hwy⟩ := hb.rd d xs hl (fun s hs => h s (by simp [hs]))
  refine ⟨(x, y), ?_, hwx, hwy⟩
  simp only [Codec.pair, hx, hy]
  rw [hk, ← List.drop_drop, List.take_append_drop]

theorem CodecRd.row {c : Codec Ty T} {t n : Nat} {dd : TypeDesc} {ss : List (Nat × TypeId)} {wf : T → Prop} (ht : P.underlying t = some dd) (hss : segsOf P dd = some ss) (hn : P.cellsOf t = n) (h : SegRd P c ss 0 n wf) : CodecRd P c t wf := by
  refine ⟨fun d xs hx => ?_⟩
  cases d with
  | zero => exact hx.elim
  | succ d =>
    unfold HasTy at hx
    rw [ht] at hx
    have key : xs.length = P.cellsOf t ∧ ∀ s ∈ ss, HasTy P d s.2 ((xs.drop s.1).take (P.cellsOf s.2)) := by
      cases dd with
      | struct fs => simp only at hx; rw [hss] at hx; exact hx
      | array m e => simp only at hx; rw [hss] at hx; exact hx
      | _ => simp [segsOf] at hss
    obtain ⟨a, ha, hw⟩ := h.rd d xs (key.1.trans hn) key.2
    exact ⟨a, by simpa using ha, hw⟩

theorem CodecRd.iso {A B : Type} {f : A → B} {g : B → A} {b : Codec Ty B} {t : TypeId} {wf : B → Prop} (hb : CodecRd P b t wf) (hfg : ∀ y, f (g y) = y) : CodecRd P (Codec.iso f g b) t (fun x => wf (f x)) := by
  refine ⟨fun d xs h => ?_⟩
  obtain ⟨y, hy, hw⟩ := hb.rd d xs h
  exact ⟨g y, by simp only [Codec.iso, hfg]; exact hy, by rw [hfg]; exact hw⟩

end

/-- A type of a universe out of cells. -/
structure TyRd (P : Program) (U : Univ) (t : TypeId) (wf : U.Ty t → Prop) : Prop where
  rd : ∀ d xs, HasTy P d t xs → ∃ a, U.enc t a = argV P t xs ∧ wf a

theorem TyRd.rows {P : Program} {U : Univ} {t : TypeId} {c : Codec U.Ty (U.Ty t)} {wf : U.Ty t → Prop} (hr : isRowT P t = true) (hc : CodecRd P c t wf) (he : ∀ a, U.enc t a = .agg (c.encV a)) : TyRd P U t wf := by
  refine ⟨fun d xs h => ?_⟩
  obtain ⟨a, ha, hw⟩ := hc.rd d xs h
  exact ⟨a, by rw [he, ha]; simp [argV, hr], hw⟩
theorem TyRd.ones {P : Program} {U : Univ} {t : TypeId} {c : Codec U.Ty (U.Ty t)} {wf : U.Ty t → Prop} (hr : isRowT P t = false) (hc : CodecRd P c t wf) (he : ∀ a, U.enc t a = c.oneV a) : TyRd P U t wf := by
  refine ⟨fun d xs h => ?_⟩
  obtain ⟨a, ha, hw⟩ := hc.rd d xs h
  exact ⟨a, by rw [he]; simp [argV, hr, Codec.oneV, ha], hw⟩

/-- Arguments of Lean's types, each as its type has it. -/
inductive AllRd (P : Program) (U : Univ) : (ts : List Nat) → (Args U ts → Prop) → Prop where
  | nil : AllRd P U [] (fun _ => True)
  | cons {t ts wf W} : TyRd P U t wf → AllRd P U ts W → AllRd P U (t :: ts) (fun x => wf x.1 ∧ W x.2)

theorem allRd_ok {P : Program} {U : Univ} {ts : List Nat} {W : Args U ts → Prop} (h : AllRd P U ts W) : ∀ {d : Nat} {as : List V}, ArgsRead P d ts as → ∃ x : Args U ts, encArgs ts x = as ∧ W x := by
  induction h with
  | nil => intro d as ha; cases ha; exact ⟨(), rfl, trivial⟩
  | cons ht _ ih =>
    intro d as ha
    cases ha with
    | cons h1 h2 =>
      obtain ⟨a, ha, hw⟩ := ht.rd _ _ h1
      obtain ⟨x, hx, hW⟩ := ih h2
      exact ⟨(a, x), by simp [encArgs, ha, hx], hw, hW⟩

/-! ### the row -/

section
variable {H : Type} {enc : TypeId × Value → H} {P : Program}

theorem trodAll_stays {W W' : World} {sp : Nat → Bool} (hl : laidOutB P = true) : ∀ {ts : List TypeId} {vs : List Value} {ds : List (DataW H)} {ps : List MemPlace}, (∀ t ∈ ts, P.readableRec t = true ∧ t < P.types.size) →
    DataW.TrodAll enc P W 0 (fun _ => true) true ts vs ds ps → Below W.heap.size W W' → (∀ p ∈ ps, p.block < W.heap.size) → (∀ p ∈ ps, sp p.block = true) → DataW.TrodAll enc P W' 0 sp true ts vs ds ps
  | [], [], [], _, _, h, _, _, _ => h
  | t :: ts, v :: vs, d :: ds, _, ht, ⟨p, q, h1, h2, e⟩, hb, hlt, hsp =>
    ⟨p, q, WideElems.Trod_stays hl (ht t (by simp)).1 (ht t (by simp)).2 h1 (fun x hx => hb.same (hlt x (by rw [e]; exact List.mem_append_left _ hx))) (fun x hx => hsp x (by rw [e]; exact List.mem_append_left _ hx)),
      trodAll_stays hl (fun t ht' => ht t (by simp [ht'])) h2 hb (fun x hx => hlt x (by rw [e]; exact List.mem_append_right _ hx)) (fun x hx => hsp x (by rw [e]; exact List.mem_append_right _ hx)), e⟩

/-- What a law leaves. -/
theorem law_post {f : Func} {s : ChangeSpec} {apart fresh handsOn again : Bool} {W W' : World} {args : Array Value} {ds gs : List (DataW H)} {before : List MemPlace} {tb : TypeId} (hl : laidOutB P = true) (hts : ∀ t ∈ f.params.toList, P.readableRec t = true ∧ t < P.types.size)
    (hW : DataW.Whole enc P f.params.toList s.vars apart W args.toList ds gs before) (hb : Below W.heap.size W W') (hr : f.resultTypes = #[tb]) (htb : P.underlying tb = some .bool)
    (h1 : (s.fn H (ds ++ gs)).results = [.lit (.bool true)]) (h2 : (s.fn H (ds ++ gs)).args = ds) (h3 : (s.fn H (ds ++ gs)).vars = gs)
    (hvars : ∀ (pv : List MemPlace), DataW.TrodVars enc P W (fun _ => true) s.vars gs pv → (∀ p ∈ pv, p.block < W.heap.size) → ∀ sp : Nat → Bool, (∀ p ∈ pv, sp p.block = true) → DataW.TrodVars enc P W' sp s.vars gs pv) :
    s.post enc P f apart fresh handsOn again W args (.bool true) W' := by
  have hlt := hW.lt
  have hW0 := hW
  obtain ⟨pa, pv, hA, hV, hps, hz, hn⟩ := hW
  have hold : ∀ p ∈ before, (fun b => decide (b < W.heap.size)) p.block = true := fun p hp => by simpa using hlt p hp
  have hpa : ∀ p ∈ pa, p ∈ before := fun p hp => by rw [hps]; exact List.mem_append_left _ hp
  have hpv : ∀ p ∈ pv, p ∈ before := fun p hp => by rw [hps]; exact List.mem_append_right _ hp
  have hargs : ∀ sp : Nat → Bool, (∀ p ∈ before, sp p.block = true) → DataW.TrodAll enc P W' 0 sp true f.params.toList args.toList (s.fn H (ds ++ gs)).args pa := fun sp hsp => by
    rw [h2]; exact trodAll_stays hl hts hA hb (fun p hp => hlt p (hpa p hp)) (fun p hp => hsp p (hpa p hp))
  have hvs : ∀ sp : Nat → Bool, (∀ p ∈ before, sp p.block = true) → DataW.TrodVars enc P W' sp s.vars (s.fn H (ds ++ gs)).vars pv := fun sp hsp => by
    rw [h3]; exact hvars pv hV (fun p hp => hlt p (hpv p hp)) sp (fun p hp => hsp p (hpv p hp))
  have hres : ∀ (b : Nat) (sp : Nat → Bool) (hd : Bool), DataW.TrodAll enc P W' b sp hd f.resultTypes.toList ((Value.bool true).resultList f.resultTypes.size) (s.fn H (ds ++ gs)).results [] := fun b sp hd => by
    rw [h1, hr]; exact trodAll_cons_mk (p := []) (p' := []) (RowKit.shut_bool htb _) trodAll_mk0
  refine ⟨ds, gs, before, [], pa, pv, hW0, hres _ _ _, hargs _ hold, hvs _ hold, World.keptBut_mono (fun p hp => ⟨hp, ?_⟩) (hb.frame (· ∈ before)), fun _ => ?_⟩
  · rw [hps, List.mem_append] at hp
    exact Or.inr hp
  · refine ⟨RowKit.ok_one hr rfl (RowKit.okWide_bool_mk htb _), _, _, ([] ++ pa) ++ pv, ⟨[] ++ pa, pv, trodAll_append (hargs _ (fun _ _ => rfl)) (hres _ _ _), hvs _ (fun _ _ => rfl), rfl, ?_, ?_⟩, ?_⟩
    · intro b off hp
      have hm : MemPlace.cell b off ∈ before := by rw [hps]; simpa using hp
      rw [hb.frozen (p := ⟨b, off, none⟩) (hlt _ hm)]
      exact hz b off hm
    · intro ha
      have := hn ha
      rw [hps] at this
      simpa using this
    · intro p hp _
      rw [hps]
      simpa using hp

/-- **A law's contract.** -/
theorem law_ok {U : Univ} {E0 : Env} {f : FuncId} {fn : Func} {m : Mod U} {s : ChangeSpec} {apart fresh handsOn again : Bool} {tb : TypeId} (hok : FnOK P E0 f m) {Wf : Args U m.ts → Prop} (hrd : AllRd P U m.ts Wf) (hpar : fn.params.toList = m.ts) {d : Nat} (hpl : ∀ t ∈ m.ts, plainTy P d t = true)
    (hl : laidOutB P = true) (hts : ∀ t ∈ m.ts, P.readableRec t = true ∧ t < P.types.size) (hr : fn.resultTypes = #[tb]) (htb : P.underlying tb = some .bool) {tt : U.Ty m.rt} (htt : U.enc m.rt tt = .lit (.bool true)) (htrue : ∀ x, Wf x → m.fn x = some tt)
    (hspec : ∀ (ds gs : List (DataW H)), ds.length = m.ts.length → gs.length = s.vars.length → (s.fn H (ds ++ gs)).results = [.lit (.bool true)] ∧ (s.fn H (ds ++ gs)).args = ds ∧ (s.fn H (ds ++ gs)).vars = gs)
    {W : World} {args : Array Value} {ds gs : List (DataW H)} {before : List MemPlace} (hval : ∀ (j : Nat) t v, fn.params[j]? = some t → args[j]? = some v → ∃ r b0, Value.okWide P W r b0 t v)
    (hW : DataW.Whole enc P fn.params.toList s.vars apart W args.toList ds gs before) (hg : GlobOK E0 (bare (allFz W)) W)
    (hvars : ∀ (W' : World), Below W.heap.size W W' → ∀ (pv : List MemPlace), DataW.TrodVars enc P W (fun _ => true) s.vars gs pv → (∀ p ∈ pv, p.block < W.heap.size) → ∀ sp : Nat → Bool, (∀ p ∈ pv, sp p.block = true) → DataW.TrodVars enc P W' sp s.vars gs pv)
    (hdl : ds.length = m.ts.length) (hgl : gs.length = s.vars.length) :
    Calls P f args W fun e W' => ∃ v, e = .returned v ∧ s.post enc P fn apart fresh handsOn again W args v W' := by
  have hW0 := hW
  obtain ⟨pa, pv, hA, hV, hps, hz, hn⟩ := hW
  rw [hpar] at hA
  obtain ⟨as, hreps, hread⟩ := args_ok hA hpl (fun j t v hj hv => hval j t v (by rw [← Array.getElem?_toList, hpar]; exact hj) (by rw [← Array.getElem?_toList]; exact hv))
  obtain ⟨x, hx, hwf⟩ := allRd_ok hrd hread
  have hcall := hok.pure x tt (htrue x hwf) (allFz W) W args.toList (fun b c hh => hh) hg (by rw [hx]; exact hreps)
  refine hcall.mono ?_
  rintro e W' ⟨u, fz', rfl, hb, _, _, _, hru, _⟩
  rw [htt] at hru
  cases hru with
  | lit _ _ =>
    obtain ⟨s1, s2, s3⟩ := hspec ds gs hdl hgl
    exact ⟨_, rfl, law_post hl (by rw [hpar]; exact hts) hW0 hb hr htb s1 s2 s3 (hvars W' hb)⟩

end

end Go.Proofs.YtkepnndakhpgoaaGreatDoor.Le

/-
  Functions without arguments, run by the kernel.
-/
namespace Go.Proofs.YtkepnndakhpgoaaGreatDoor.Le
set_option linter.unusedVariables false

/-- slices.Clone, its elements of n cells and by bytes: what it comes to. -/
def cloneF (n by' : Nat) : List V → Option V
  | [.sl false e xs] => if e = n ∧ xs.length * by' ≤ lim ∧ xs.length ≤ maxLen then some (.sl false e xs) else none
  | _ => none
def envCl (cl : List (Nat × Nat × Nat × Nat)) : FuncId → Option (List V → Option V) := fun g => (cl.find? fun p => p.1 == g).map fun p => cloneF p.2.1 p.2.2.1
def ownCl (cl : List (Nat × Nat × Nat × Nat)) : FuncId → Option TypeId := fun g => (cl.find? fun p => p.1 == g).map fun p => p.2.2.2
structure CloneOK (P : Program) (f n by' e : Nat) : Prop where
  entered : Entered P f
  pure : ∀ (E : Env) (xs : List V), xs.length * by' ≤ lim → xs.length ≤ maxLen → PureFn P E f [.sl false n xs] (.sl false n xs)
  own : ∀ (E : Env) (xs : List V), xs.length * by' ≤ lim → xs.length ≤ maxLen → PureOwn P E f [.sl false n xs] e n xs

theorem envCl_fns {P : Program} {E : Env} {cl : List (Nat × Nat × Nat × Nat)} (hE : E.env = envCl cl) (ho : E.own = ownCl cl) (hhm : ∀ f k, E.hm f k = none) (h : ∀ p ∈ cl, CloneOK P p.1 p.2.1 p.2.2.1 p.2.2.2) : EnvFns P E := by
  refine ⟨?_, fun f key hs h => by rw [hhm] at h; cases h⟩
  intro f F hF
  rw [hE] at hF
  unfold envCl at hF
  cases hp : cl.find? (fun p => p.1 == f) with
  | none => simp [hp] at hF
  | some p =>
    simp only [hp, Option.map_some, Option.some.injEq] at hF
    subst hF
    have hm := h p (List.mem_of_find?_eq_some hp)
    have hf : p.1 = f := by simpa using List.find?_some hp
    rw [hf] at hm
    have hown : E.own f = some p.2.2.2 := by rw [ho]; unfold ownCl; rw [hp]; rfl
    refine ⟨hm.entered, fun as r _ hr => ?_⟩
    rw [hown]
    intro sz xs hr0
    subst hr0
    unfold cloneF at hr
    split at hr
    · split at hr
      · rename_i hc
        simp only [Option.some.injEq, V.sl.injEq] at hr
        obtain ⟨_, rfl, rfl⟩ := hr
        rw [hc.1]
        exact hm.own E _ hc.2.1 hc.2.2
      · cases hr
    · cases hr

theorem clone_fn {U : Univ} {P : Program} {E0 : Env} {f n by' e : Nat} (h : CloneOK P f n by' e) {m : Mod U} (hm : ∀ x a, m.fn x = some a → ∃ xs, encArgs m.ts x = [.sl false n xs] ∧ U.enc m.rt a = .sl false n xs ∧ xs.length * by' ≤ lim ∧ xs.length ≤ maxLen) : FnOK P E0 f m := by
  refine ⟨h.entered, fun x a hx => ?_⟩
  obtain ⟨xs, h1, h2, h3, h4⟩ := hm x a hx
  rw [h1, h2]
  exact h.pure E0 xs h3 h4

noncomputable def EC (P : Program) (gl : Nat → Option (List V)) (fs : List FuncId) (pu : FuncId → Bool) (bad : List (Nat × Nat) := []) (cl : List (Nat × Nat × Nat × Nat) := []) : Env :=
  { plainEnv P pu (envCl cl) with
    func := fun g => if fs.contains g then P.funcs[g]? else none
    glob := gl
    own := ownCl cl
    calm := fun f id => !(bad.any fun p => p.1 == f && p.2 == id) }

noncomputable def ecCheck (P : Program) (gl : Nat → Option (List V)) (fs : List FuncId) (pu : FuncId → Bool) (bad : List (Nat × Nat) := []) (cl : List (Nat × Nat × Nat × Nat) := []) : Bool :=
  fs.all fun g => match P.funcs[g]? with
    | some fn => !(fn.name == "runtime.NumGoroutine") && (match fn.body with | some c => calmC (EC P gl fs pu bad cl) g c | none => true)
    | none => true

theorem EC_ok {P : Program} {gl : Nat → Option (List V)} {fs : List FuncId} {pu : FuncId → Bool} {bad : List (Nat × Nat)} {cl : List (Nat × Nat × Nat × Nat)} (hmix : P.follows .mixedOrders = true) (hck : ecCheck P gl fs pu bad cl = true) : EnvOK (EC P gl fs pu bad cl) := by
  have hck := List.all_eq_true.1 hck
  refine ⟨fun t i h => h, ?_, hmix, ?_, ?_, ?_, ?_, fun t ks h => h, ?_⟩
  · intro g fn h
    simp only [EC] at h
    split at h
    · rename_i hg
      have := hck g (by simpa using hg)
      rw [h] at this
      simp only [Bool.and_eq_true, Bool.not_eq_true'] at this
      exact ⟨h, this.1⟩
    · cases h
  · intro g fn c h hb
    simp only [EC] at h
    split at h
    · rename_i hg
      have := hck g (by simpa using hg)
      rw [h] at this
      simp only [hb, Bool.and_eq_true] at this
      exact this.2
    · cases h
  · intro t k h
    simp only [EC, plainEnv] at h
    split at h
    · rename_i d hd
      simp only [Option.some.injEq] at h
      subst h
      exact hd
    · cases h
  · intro t h
    simp only [EC, plainEnv] at h
    split at h
    · rename_i hd; exact hd
    · cases h
  · intro t h
    simp only [EC, plainEnv] at h
    split at h
    · rename_i hd; exact hd
    · cases h
  · intro t h
    simp only [EC, plainEnv] at h
    split at h
    · rename_i e he
      split at h
      · rename_i hd; exact ⟨e, he, hd⟩
      · cases h
    · cases h

theorem trodAll_len {H : Type} {enc : TypeId × Value → H} {P : Program} {w : World} {base : Nat} {spare : Nat → Bool} {held : Bool} : ∀ {ts : List TypeId} {vs : List Value} {ds : List (DataW H)} {ps : List MemPlace}, DataW.TrodAll enc P w base spare held ts vs ds ps → ds.length = ts.length
  | [], [], [], _, _ => rfl
  | _ :: _, _ :: _, _ :: _, _, ⟨_, _, _, h, _⟩ => congrArg (· + 1) (trodAll_len h)

/-- A function without arguments that the kernel has run. -/
theorem closed_ok {U : Univ} {P : Program} {gl : Nat → Option (List V)} {fs : List FuncId} {pu : FuncId → Bool} {bad : List (Nat × Nat)} {cl : List (Nat × Nat × Nat × Nat)} {E0 : Env} (hE0 : E0.glob = gl) (hmix : P.follows .mixedOrders = true) (hck : ecCheck P gl fs pu bad cl = true) (hcl : ∀ p ∈ cl, CloneOK P p.1 p.2.1 p.2.2.1 p.2.2.2) {f : FuncId} (hne : envCl cl f = none) (hf : fs.contains f = true) (hp : pu f = true) {fn : Func} (hfn : P.funcs[f]? = some fn)
    (hb : fn.body.isNone = false) {n : Nat} {m : Mod U} (hts : m.ts = []) {a : U.Ty m.rt} (hm : ∀ x, m.fn x = some a) (h : (callD (EC P gl fs pu bad cl) (n + 1) f [] []).map (·.1) = some (U.enc m.rt a)) : FnOK P E0 f m := by
  have hE := EC_ok hmix hck
  have hname : (fn.name == "runtime.NumGoroutine") = false := (hE.func f fn (by simp only [EC, hf, if_true]; exact hfn)).2
  refine ⟨⟨fn, hfn, hb, hname⟩, fun x a' hx => ?_⟩
  rw [hm x] at hx
  cases hx
  cases hc : callD (EC P gl fs pu bad cl) (n + 1) f [] [] with
  | none => simp [hc] at h
  | some rr =>
    obtain ⟨r, H'⟩ := rr
    simp only [hc, Option.map_some, Option.some.injEq] at h
    subst h
    have hpf := pureFn_of hE rfl (envCl_fns rfl rfl (fun _ _ => rfl) hcl) hp hne rfl hc
    have he : encArgs m.ts x = [] := by
      have hl := encArgs_length x
      exact List.eq_nil_of_length_eq_zero (by rw [hl, congrArg List.length hts]; rfl)
    rw [he]
    intro fz w vs hcells hg hr
    exact hpf fz w vs hcells (fun g r hh => hg g r (by rw [hE0]; exact hh)) hr

end Go.Proofs.YtkepnndakhpgoaaGreatDoor.Le

