/-
  Runs of code over values, step by step; boxes put in order on the way. Runs are sound.
-/
import Derived.Test.YtcjccaonfgcakaaLe27
namespace Go.Proofs.Ytcjccaonfgcakaa.Le
set_option linter.unusedVariables false
open Go.RowKit (Below)

/-! ### boxes in another order -/

def ren1 (ids : List Nat) : V → V
  | .lsl id off len tot => .lsl (ids.idxOf id) off len tot
  | .ptr id i off tot => .ptr (ids.idxOf id) i off tot
  | v => v
def renV (ids : List Nat) : V → V
  | .agg cs => .agg (cs.map (ren1 ids))
  | v => ren1 ids v

def can1 (ids : List Nat) : V → Prop
  | .lsl id _ _ _ => id ∈ ids
  | .ptr id _ _ _ => id ∈ ids
  | v => noRef v = true
def canV (ids : List Nat) : V → Prop
  | .agg cs => ∀ c ∈ cs, can1 ids c
  | v => can1 ids v

structure TidyR (ids : List Nat) (st st' : St) : Prop where
  nodup : ids.Nodup
  len : st'.H.length = ids.length
  heap : ∀ (j id : Nat), ids[j]? = some id → ∃ b b', st.H[id]? = some b ∧ b.live = true ∧ st'.H[j]? = some b' ∧ b'.live = true ∧ b'.row = b.row ∧ (b'.nilp = true → b.nilp = true) ∧ b'.elem = b.elem ∧ b'.esz = b.esz ∧
    (b.floor ≤ b'.floor ∨ b'.floor = b'.xs.length) ∧ b'.floor ≤ b'.xs.length ∧ (b.row = true → b'.xs = b.xs) ∧ (b.row = false → b'.xs = b.xs.map (renV ids) ∧ ∀ x ∈ b.xs, canV ids x)
  slen : st'.s.length = st.s.length
  slots : ∀ (i : Nat) (v' : V), st'.s[i]? = some v' → v' = .und ∨ ∃ v, st.s[i]? = some v ∧ v' = renV ids v ∧ canV ids v

def Sg.ren (σ : Sg) (ids : List Nat) : Sg := ⟨fun j => (ids[j]?).bind σ.box, σ.fz⟩

theorem idx_get {ids : List Nat} {id : Nat} (h : id ∈ ids) : ids[ids.idxOf id]? = some id := by
  have hlt := List.idxOf_lt_length_of_mem h
  rw [List.getElem?_eq_getElem hlt, List.getElem_idxOf]

theorem ren_box {σ : Sg} {ids : List Nat} {id : Nat} (h : id ∈ ids) : (σ.ren ids).box (ids.idxOf id) = σ.box id := by
  simp [Sg.ren, idx_get h]

theorem ren1_reps {σ : Sg} {w : World} {ids : List Nat} {x : V} {u : Value} (h : Reps σ w [x] [u]) (hc : can1 ids x) : Reps (σ.ren ids) w [ren1 ids x] [u] := by
  have hn : noRef x = true → Reps (σ.ren ids) w [x] [u] := fun hx => h.bare (fun b c hh => ⟨hh, rfl⟩) (by simp [noRefs, hx])
  unfold ren1
  split
  · cases h with
    | lsl h1 h2 h3 h4 _ => exact .lsl (by rw [ren_box hc]; exact h1) h2 h3 h4 .nil
  · cases h with
    | ptr g h1 h2 h3 h4 _ => exact .ptr g (by rw [ren_box hc]; exact h1) h2 h3 h4 .nil
  · rename_i h1 h2
    refine hn ?_
    unfold can1 at hc
    split at hc
    · exact absurd rfl (h1 _ _ _ _)
    · exact absurd rfl (h2 _ _ _ _)
    · exact hc

theorem ren1s_reps {σ : Sg} {w : World} {ids : List Nat} : ∀ {xs : List V} {us : List Value}, Reps σ w xs us → (∀ c ∈ xs, can1 ids c) → Reps (σ.ren ids) w (xs.map (ren1 ids)) us := by
  intro xs
  induction xs with
  | nil => intro us h _; cases h.nil_left; exact .nil
  | cons x xs ih =>
    intro us h hc
    obtain ⟨u, us', rfl, h1, h2⟩ := h.cons_left
    exact Reps.cons_iff.2 ⟨ren1_reps h1 (hc x (by simp)), ih h2 (fun c hh => hc c (by simp [hh]))⟩

theorem renV_reps {σ : Sg} {w : World} {ids : List Nat} {x : V} {u : Value} (h : Reps σ w [x] [u]) (hc : canV ids x) : Reps (σ.ren ids) w [renV ids x] [u] := by
  unfold renV
  split
  · cases h with
    | agg h1 ho _ => exact .agg (ren1s_reps h1 hc) ho .nil
  · rename_i hne
    refine ren1_reps h ?_
    unfold canV at hc
    split at hc
    · exact absurd rfl (hne _)
    · exact hc

theorem renVs_reps {σ : Sg} {w : World} {ids : List Nat} : ∀ {xs : List V} {us : List Value}, Reps σ w xs us → (∀ c ∈ xs, canV ids c) → Reps (σ.ren ids) w (xs.map (renV ids)) us := by
  intro xs
  induction xs with
  | nil => intro us h _; cases h.nil_left; exact .nil
  | cons x xs ih =>
    intro us h hc
    obtain ⟨u, us', rfl, h1, h2⟩ := h.cons_left
    exact Reps.cons_iff.2 ⟨renV_reps h1 (hc x (by simp)), ih h2 (fun c hh => hc c (by simp [hh]))⟩

theorem ren1_ok (ids : List Nat) (x : V) : okV (ren1 ids x) = okV x := by unfold ren1; split <;> rfl
theorem renV_ok (ids : List Nat) (x : V) : okV (renV ids x) = okV x := by
  unfold renV; split
  · rfl
  · exact ren1_ok ids x

theorem reps_slots {σ : Sg} {w : World} : ∀ {xs : List V} {vs : List Value}, xs.length = vs.length → (∀ (i : Nat) (x : V) (v : Value), xs[i]? = some x → vs[i]? = some v → Reps σ w [x] [v]) → Reps σ w xs vs := by
  intro xs
  induction xs with
  | nil => intro vs hl _; cases vs with | nil => exact .nil | cons => simp at hl
  | cons x xs ih =>
    intro vs hl h
    cases vs with
    | nil => simp at hl
    | cons v vs => exact Reps.cons_iff.2 ⟨h 0 x v rfl rfl, ih (by simpa using hl) (fun i y u h1 h2 => h (i + 1) y u (by simpa using h1) (by simpa using h2))⟩

theorem nodup_get {l : List Nat} (h : l.Nodup) {i j x : Nat} (hi : l[i]? = some x) (hj : l[j]? = some x) : i = j := by
  obtain ⟨h1, e1⟩ := List.getElem?_eq_some_iff.1 hi
  obtain ⟨h2, e2⟩ := List.getElem?_eq_some_iff.1 hj
  exact (List.getElem_inj h).1 (e1.trans e2.symm)

theorem tidy_ok {E : Env} {B : Nat} {w0 : Start} {σ : Sg} {st st' : St} {a : Act} {w : World} {ids : List Nat} (ht : TidyR ids st st') (h : Rel E B w0 σ st a w) : Rel E B w0 (σ.ren ids) st' a w := by
  have hbox : ∀ {j : Nat} {L : Loc}, (σ.ren ids).box j = some L → ∃ id, ids[j]? = some id ∧ σ.box id = some L := by
    intro j L hL
    simp only [Sg.ren] at hL
    cases hj : ids[j]? with
    | none => simp [hj] at hL
    | some id => simp only [hj, Option.bind_some] at hL; exact ⟨id, rfl, hL⟩
  have hsome : ∀ {j : Nat} {b' : Box}, st'.H[j]? = some b' → ∃ id, ids[j]? = some id := by
    intro j b' hb
    have hlt := (List.getElem?_eq_some_iff.1 hb).1
    rw [ht.len] at hlt
    exact ⟨ids[j], List.getElem?_eq_getElem hlt⟩
  refine ⟨⟨h.inv.below, h.inv.size, ?_, ?_, ?_, h.inv.cells, ?_, ?_, h.inv.old⟩, h.glob.bare (fun b c hh => ⟨hh, rfl⟩), ?_, h.calm⟩
  · intro j L hL
    obtain ⟨id, h1, h2⟩ := hbox hL
    obtain ⟨b, b', _, _, q1, q2, _⟩ := ht.heap j id h1
    exact ⟨b', q1, q2⟩
  · intro j b' hb hl
    obtain ⟨id, hid⟩ := hsome hb
    obtain ⟨b, b2, p1, p2, p3, p4, p5, p6, p7, p8, p9, p10, p11, p12⟩ := ht.heap j id hid
    rw [hb] at p3
    cases p3
    obtain ⟨L, hL, hok⟩ := h.inv.boxes id b p1 p2
    obtain ⟨us, r1, r2, r3, r4⟩ := hok.reps
    refine ⟨L, by simp [Sg.ren, hid, hL], ?_⟩
    have hlen : b'.xs.length = b.xs.length := by
      cases hr : b.row with
      | true => rw [p11 hr]
      | false => rw [(p12 hr).1]; simp
    have hreps : Reps (σ.ren ids) w b'.xs us := by
      cases hr : b.row with
      | true => rw [p11 hr]; exact r1.bare (fun b c hh => ⟨hh, rfl⟩) ((noRefs_iff _).2 (hok.fzs hr))
      | false => rw [(p12 hr).1]; exact renVs_reps r1 (p12 hr).2
    refine ⟨by rw [hlen]; exact hok.tot, ⟨us, hreps, r2, r3, by rw [p7, hlen]; exact r4⟩, fun hn => hok.nilp (p6 hn), by rw [p8]; exact hok.esz, ?_, ?_⟩
    · intro x hx
      cases hr : b.row with
      | true => rw [p11 hr] at hx; exact hok.oks x hx
      | false =>
        rw [(p12 hr).1] at hx
        obtain ⟨y, hy, rfl⟩ := List.mem_map.1 hx
        rw [renV_ok]
        exact hok.oks y hy
    · intro hr x hx
      rw [p5] at hr
      rw [p11 hr] at hx
      exact hok.fzs hr x hx
  · intro j j' b1 b2 L1 L2 g h1 h2 l1 l2 s1 s2 g1 g2
    obtain ⟨i1, e1, t1⟩ := hbox s1
    obtain ⟨i2, e2, t2⟩ := hbox s2
    obtain ⟨c1, _, p1, p2, _⟩ := ht.heap j i1 e1
    obtain ⟨c2, _, q1, q2, _⟩ := ht.heap j' i2 e2
    have := h.inv.apart i1 i2 c1 c2 L1 L2 g p1 q1 p2 q2 t1 t2 g1 g2
    subst this
    exact nodup_get ht.nodup e1 e2
  · intro b c hc j b' L hb hl hL hg
    obtain ⟨id, hid, hL'⟩ := hbox hL
    obtain ⟨b0, b2, p1, p2, p3, p4, p5, p6, p7, p8, p9, p10, p11, p12⟩ := ht.heap j id hid
    rw [hb] at p3
    cases p3
    have := h.inv.floor b c hc id b0 L p1 p2 hL' hg
    have hlen : b'.xs.length = b0.xs.length := by
      cases hr : b0.row with
      | true => rw [p11 hr]
      | false => rw [(p12 hr).1]; simp
    have hle : b0.floor ≤ b'.floor := by
      rcases p9 with p9 | p9
      · exact p9
      · rw [p9, hlen]; exact h.inv.low id b0 p1 p2
    exact Nat.lt_of_lt_of_le this (Nat.mul_le_mul_right _ hle)
  · intro j b' hb hl
    obtain ⟨id, hid⟩ := hsome hb
    obtain ⟨b0, b2, p1, p2, p3, p4, p5, p6, p7, p8, p9, p10, p11, p12⟩ := ht.heap j id hid
    rw [hb] at p3
    cases p3
    exact p10
  · refine reps_slots (by rw [ht.slen]; exact h.slots.length) (fun i x v hx hv => ?_)
    rcases ht.slots i x hx with rfl | ⟨y, hy, rfl, hc⟩
    · exact .und _ .nil
    · obtain ⟨u, hu, hr⟩ := h.slots.get hy
      rw [hv] at hu
      cases hu
      exact renV_reps hr hc

/-! ### runs -/

inductive Ctl where
  | run (c : Code) | nxt | exit (id : Nat) | ret
inductive Fr where
  | seq (c : Code) | blk (id : Nat) | loop (b : Code)

/-- The types of a call's results on its frozen value. -/
def retypeRL : List (List Nat) → List V → List V
  | es :: rs, v :: vs => retype es v :: retypeRL rs vs
  | [], vs => vs
  | _, [] => []
def retypeR (rs : List (List Nat)) : V → V
  | .tup vs => .tup (retypeRL rs vs)
  | v => retype (rs.headD []) v

inductive RunsV (call : CallF) (E : Env) (f : FuncId) (fn : Func) : Ctl → List Fr → St → V → Prop where
  | skip {K st r} : RunsV call E f fn .nxt K st r → RunsV call E f fn (.run .skip) K st r
  | region {id ops K st st' r} : opsD call E ops (List.range ops.size) st = some st' → RunsV call E f fn .nxt K st' r → RunsV call E f fn (.run (.region id ops false)) K st r
  | draw {id ops K st st' r} : E.calm f id = true → drawD call E ops st = some st' → RunsV call E f fn .nxt K st' r → RunsV call E f fn (.run (.region id ops true)) K st r
  | seq {a b K st r} : RunsV call E f fn (.run a) (.seq b :: K) st r → RunsV call E f fn (.run (.seq a b)) K st r
  | cond {c a b t K st r} : ev E st.s c = .lit (.bool t) → RunsV call E f fn (.run (if t then a else b)) K st r → RunsV call E f fn (.run (.cond c a b)) K st r
  | block {id b K st r} : RunsV call E f fn (.run b) (.blk id :: K) st r → RunsV call E f fn (.run (.block id b)) K st r
  | loop {b K st r} : RunsV call E f fn (.run b) (.loop b :: K) st r → RunsV call E f fn (.run (.loop b)) K st r
  | exit {id K st r} : RunsV call E f fn (.exit id) K st r → RunsV call E f fn (.run (.exit id)) K st r
  | ret {K st r} : RunsV call E f fn .ret K st r → RunsV call E f fn (.run .ret) K st r
  | nseq {c K st r} : RunsV call E f fn (.run c) K st r → RunsV call E f fn .nxt (.seq c :: K) st r
  | nblk {id K st r} : RunsV call E f fn .nxt K st r → RunsV call E f fn .nxt (.blk id :: K) st r
  | nloop {b K st r} : RunsV call E f fn (.run b) (.loop b :: K) st r → RunsV call E f fn .nxt (.loop b :: K) st r
  | eseq {id c K st r} : RunsV call E f fn (.exit id) K st r → RunsV call E f fn (.exit id) (.seq c :: K) st r
  | eloop {id b K st r} : RunsV call E f fn (.exit id) K st r → RunsV call E f fn (.exit id) (.loop b :: K) st r
  | eblk {id K st r} : RunsV call E f fn .nxt K st r → RunsV call E f fn (.exit id) (.blk id :: K) st r
  | epass {id i K st r} : id ≠ i → RunsV call E f fn (.exit id) K st r → RunsV call E f fn (.exit id) (.blk i :: K) st r
  | rany {x K st r} : RunsV call E f fn .ret K st r → RunsV call E f fn .ret (x :: K) st r
  | finN {st r0 r1} : resultsD E st.H st.s fn.results.toList = some r0 → frzT st.H r0 = some r1 → RunsV call E f fn .nxt [] st (retypeR (fn.resultTypes.toList.map E.rows) r1)
  | finR {st r0 r1} : resultsD E st.H st.s fn.results.toList = some r0 → frzT st.H r0 = some r1 → RunsV call E f fn .ret [] st (retypeR (fn.resultTypes.toList.map E.rows) r1)
  | tidy {ctl K ids st st' r} : TidyR ids st st' → RunsV call E f fn ctl K st' r → RunsV call E f fn ctl K st r

/-- Being at the end of a loop's body. -/
def LoopIn (P : Program) (b : Code) (Q : Exit → Act → World → Prop) (a : Act) (w : World) : Prop :=
  ∀ fr k cs, ∃ e a' w', Q e a' w' ∧ Arrives P (lone (fr.at a (.code b :: .inLoop b :: k)) cs w) fr k cs e a' w'

theorem LoopIn.of {P : Program} {b : Code} {Q : Exit → Act → World → Prop} {a : Act} {w : World} (h : b.wp P (Exit.then (LoopIn P b Q) Q) a w) : LoopIn P b Q a w := by
  intro fr k cs
  obtain ⟨e, a₁, w₁, hq, harr⟩ := h fr (.inLoop b :: k) cs
  cases e with
  | normal =>
    obtain ⟨e₂, a₂, w₂, hq₂, harr₂⟩ := hq fr k cs
    exact ⟨e₂, a₂, w₂, hq₂, .of_steps (Steps.trans harr (.one step_inLoop)) harr₂⟩
  | exit id => exact ⟨_, a₁, w₁, hq, .pass (x := .inLoop b) rfl (fun _ _ => .inl (by simp)) harr⟩
  | goto l => exact ⟨_, a₁, w₁, hq, .pass (x := .inLoop b) rfl (fun _ _ => .inl (by simp)) harr⟩
  | ret => exact ⟨_, a₁, w₁, hq, .pass (x := .inLoop b) rfl (fun _ _ => .inl (by simp)) harr⟩
  | panic ch => exact ⟨_, a₁, w₁, hq, .pass (x := .inLoop b) rfl (fun _ _ => .inl (by simp)) harr⟩
  | outgrown => exact ⟨_, a₁, w₁, hq, .pass (x := .inLoop b) rfl (fun _ _ => .inl (by simp)) harr⟩

theorem LoopIn.wp {P : Program} {b : Code} {Q : Exit → Act → World → Prop} {a : Act} {w : World} (h : LoopIn P b Q a w) : (Code.loop b).wp P Q a w := by
  intro fr k cs
  obtain ⟨e, a', w', hq, harr⟩ := h fr k cs
  exact ⟨e, a', w', hq, .of_steps (.one step_loop) harr⟩

def QK (P : Program) (Z : Act → World → Prop) : List Fr → Exit → Act → World → Prop
  | [], .normal, a, w => Z a w
  | [], .ret, a, w => Z a w
  | [], _, _, _ => False
  | .seq c :: K, e, a, w => Exit.then (c.wp P (QK P Z K)) (QK P Z K) e a w
  | .blk id :: K, e, a, w => Exit.inBlock id (QK P Z K) e a w
  | .loop b :: K, e, a, w => Exit.then (LoopIn P b (QK P Z K)) (QK P Z K) e a w

def CtlWp (P : Program) (Z : Act → World → Prop) (K : List Fr) (a : Act) (w : World) : Ctl → Prop
  | .run c => c.wp P (QK P Z K) a w
  | .nxt => QK P Z K .normal a w
  | .exit id => QK P Z K (.exit id) a w
  | .ret => QK P Z K .ret a w

def calmCtl (E : Env) (f : FuncId) : Ctl → Bool
  | .run c => calmC E f c
  | _ => true
def calmK (E : Env) (f : FuncId) : List Fr → Bool
  | [] => true
  | .seq c :: K => calmC E f c && calmK E f K
  | .loop c :: K => calmC E f c && calmK E f K
  | .blk _ :: K => calmK E f K

theorem retypeRL_reps {σ w} : ∀ (rs : List (List Nat)) {xs : List V} {vs : List Value}, Reps σ w xs vs → Reps σ w (retypeRL rs xs) vs := by
  intro rs
  induction rs with
  | nil => intro xs vs h; simpa [retypeRL] using h
  | cons r rs ih =>
    intro xs vs h
    cases xs with
    | nil => simpa [retypeRL] using h
    | cons x xs =>
      obtain ⟨v, vs', rfl, h1, h2⟩ := h.cons_left
      exact Reps.cons_iff.2 ⟨retype_reps _ h1, ih h2⟩

theorem retypeT_reps {σ w x v} (rs : List (List Nat)) (h : Reps σ w [x] [v]) : Reps σ w [retypeR rs x] [v] := by
  unfold retypeR
  split
  · cases h with
    | tup h1 _ => exact .tup (retypeRL_reps rs h1) .nil
  · exact retype_reps _ h

theorem retypeRL_noRef : ∀ (rs : List (List Nat)) (xs : List V), noRefs (retypeRL rs xs) = noRefs xs := by
  intro rs
  induction rs with
  | nil => intro xs; simp [retypeRL]
  | cons r rs ih => intro xs; cases xs <;> simp [retypeRL, noRefs, retype_noRef, ih]

theorem retypeR_noRef (rs : List (List Nat)) (x : V) (h : noRef x = true) : noRef (retypeR rs x) = true := by
  unfold retypeR
  split
  · simpa [noRef, retypeRL_noRef] using h
  · rw [retype_noRef]; exact h

/-- What is known at the end of a call. -/
def Fin (P : Program) (fn : Func) (B : Nat) (w0 : Start) (r : V) (a : Act) (w : World) : Prop :=
  a.defers = [] ∧ ∃ u fz', (results fn a.tmps).run P w = .ok u w ∧ Below B w0.w w ∧ (∀ b c, w0.fz b c → fz' b c) ∧ (∀ b c, fz' b c → b < B → w0.fz b c) ∧ (∀ b c, fz' b c → ∃ u, w.cell? ⟨b, c, none⟩ = some u) ∧ Reps (bare fz') w [r] [u] ∧ noRef r = true

section
variable {P : Program} {E : Env} {B : Nat} {w0 : Start} {call : CallF} {f : FuncId} {fn : Func}

theorem fin_ok (hE : EnvOK E) (hP : E.P = P) {σ : Sg} {st : St} {a : Act} {w : World} {r0 r1 : V} (h : Rel E B w0 σ st a w) (hfz : ∀ b c, w0.fz b c → σ.fz b c)
    (hr : resultsD E st.H st.s fn.results.toList = some r0) (hf : frzT st.H r0 = some r1) : Fin P fn B w0 (retypeR (fn.resultTypes.toList.map E.rows) r1) a w := by
  obtain ⟨u, hu, hur⟩ := results_ok (P := P) hE hP h.inv h.slots hr
  obtain ⟨hI, hEx⟩ := h.inv.freeze (idsT r0)
  have hr2 := frzT_reps h.inv hur hf (idsT r0) (fun i hi => hi)
  have hn := frzT_noRef h.inv hur hf
  refine ⟨h.calm, u, (σ.freeze st.H (idsT r0)).fz, hu, hI.below, fun b c hh => (hEx.fz b c (hfz b c hh)).1, fun b c hh hlt => hI.old b c hh hlt, hI.cells, ?_, retypeR_noRef _ _ hn⟩
  exact Reps.bare (retypeT_reps _ hr2) (fun b c hh => ⟨hh, rfl⟩) (by simp [noRefs, retypeR_noRef _ _ hn])

theorem runs_ok (hE : EnvOK E) (hP : E.P = P) (hcall : CallOK P E B w0 call) (hpure : PureOK E call) {ctl : Ctl} {K : List Fr} {st : St} {r : V} (h : RunsV call E f fn ctl K st r) :
    calmCtl E f ctl = true → calmK E f K = true → ∀ (σ : Sg) (a : Act) (w : World), Rel E B w0 σ st a w → (∀ b c, w0.fz b c → σ.fz b c) → CtlWp P (Fin P fn B w0 r) K a w ctl := by
  have up : ∀ {σ σ' : Sg} {w w' : World}, (∀ b c, w0.fz b c → σ.fz b c) → Ext σ w σ' w' → ∀ b c, w0.fz b c → σ'.fz b c := fun h1 h2 b c hh => (h2.fz b c (h1 b c hh)).1
  induction h with
  | skip h ih => intro hc hk σ a w hr hf; exact wp_skip (ih rfl hk σ a w hr hf)
  | region hs h ih =>
    intro hc hk σ a w hr hf
    exact wp_region (opsD_ok hE hP hcall _ _ σ a w hr hs (fun a' w' σ' hr' he' => ih rfl hk σ' a' w' hr' (up hf he')))
  | draw hcalm hs h ih =>
    intro hc hk σ a w hr hf
    refine draw_ok hE hP (by rw [← hP]; exact hE.mix) hcall hpure ?_ hr hs (fun a' w' σ' hr' he' => ih rfl hk σ' a' w' hr' (up hf he'))
    simpa [calmCtl, calmC, hcalm] using hc
  | seq h ih =>
    intro hc hk σ a w hr hf
    simp only [calmCtl, calmC, Bool.and_eq_true] at hc
    exact wp_seq (ih hc.1 (by simp [calmK, hc.2, hk]) σ a w hr hf)
  | cond ht h ih =>
    rename_i c x y t K st r
    intro hc hk σ a w hr hf
    simp only [calmCtl, calmC, Bool.and_eq_true] at hc
    have hv := ev_reps (a := a) hr.glob hr.slots c
    rw [ht] at hv
    have hb : a.eval c = .bool t := by generalize a.eval c = v at hv; cases hv; rfl
    refine wp_cond hb ?_
    refine ih ?_ hk σ a w hr hf
    cases t
    · exact hc.2
    · exact hc.1
  | block h ih =>
    intro hc hk σ a w hr hf
    exact wp_block (ih hc hk σ a w hr hf)
  | loop h ih =>
    intro hc hk σ a w hr hf
    simp only [calmCtl, calmC] at hc
    exact (LoopIn.of (ih hc (by simp [calmK, hc, hk]) σ a w hr hf)).wp
  | exit h ih => intro hc hk σ a w hr hf; exact wp_exit (ih rfl hk σ a w hr hf)
  | ret h ih => intro hc hk σ a w hr hf; exact wp_ret (ih rfl hk σ a w hr hf)
  | nseq h ih =>
    intro hc hk σ a w hr hf
    simp only [calmK, Bool.and_eq_true] at hk
    exact ih hk.1 hk.2 σ a w hr hf
  | nblk h ih => intro hc hk σ a w hr hf; exact ih rfl hk σ a w hr hf
  | nloop h ih =>
    intro hc hk σ a w hr hf
    have hk' := hk
    simp only [calmK, Bool.and_eq_true] at hk'
    exact LoopIn.of (ih hk'.1 hk σ a w hr hf)
  | eseq h ih =>
    intro hc hk σ a w hr hf
    simp only [calmK, Bool.and_eq_true] at hk
    exact ih rfl hk.2 σ a w hr hf
  | eloop h ih =>
    intro hc hk σ a w hr hf
    simp only [calmK, Bool.and_eq_true] at hk
    exact ih rfl hk.2 σ a w hr hf
  | eblk h ih =>
    intro hc hk σ a w hr hf
    have := ih rfl hk σ a w hr hf
    simp only [CtlWp, QK, Exit.inBlock, if_true]
    exact this
  | epass hne h ih =>
    intro hc hk σ a w hr hf
    have := ih rfl hk σ a w hr hf
    simp only [CtlWp, QK, Exit.inBlock, hne, if_false]
    exact this
  | rany h ih =>
    rename_i x K st r
    intro hc hk σ a w hr hf
    have : calmK E f K = true := by cases x <;> simp_all [calmK]
    have := ih rfl this σ a w hr hf
    cases x <;> exact this
  | finN hr0 hf0 => intro hc hk σ a w hr hf; exact fin_ok hE hP hr hf hr0 hf0
  | finR hr0 hf0 => intro hc hk σ a w hr hf; exact fin_ok hE hP hr hf hr0 hf0
  | tidy ht h ih => intro hc hk σ a w hr hf; exact ih hc hk _ a w (tidy_ok ht hr) hf

end

end Go.Proofs.Ytcjccaonfgcakaa.Le
