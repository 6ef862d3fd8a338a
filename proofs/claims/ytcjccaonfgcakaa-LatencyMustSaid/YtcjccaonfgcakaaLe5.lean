/-
  An evaluator for the model's code over pure values: what a reference into a row shows; frozen values; cells.
-/
import Derived.Test.YtcjccaonfgcakaaLe4
namespace Go.Proofs.Ytcjccaonfgcakaa.Le
set_option linter.unusedVariables false
open Go.RowKit (Below)

theorem boxAt_some {H : Heap} {id tot : Nat} {b : Box} (h : boxAt H id tot = some b) : H[id]? = some b ∧ b.live = true ∧ b.xs.length = tot := by
  unfold boxAt at h
  split at h
  · rename_i b' hb
    split at h
    · rename_i hc
      simp only [Option.some.injEq] at h
      subst h
      simp only [Bool.and_eq_true, beq_iff_eq] at hc
      exact ⟨hb, hc.1, hc.2⟩
    · cases h
  · cases h

/-- What is known of a box that is met. -/
structure Met (B : Nat) (w0 : Start) (σ : Sg) (H : Heap) (w : World) (id : Nat) (b : Box) (L : Loc) (us : List Value) : Prop where
  hb : H[id]? = some b
  live : b.live = true
  box : σ.box id = some L
  tot : L.tot = b.xs.length
  reps : Reps σ w b.xs us
  sizes : ∀ u ∈ us, u.cells.size = L.esz
  ones : ∀ u ∈ flat us, u.oneCell' = true
  own : w.ownsRow B b.elem L.esz L.v b.xs.length (flat us)
  nilp : b.nilp = true → L.v = .slice none 0 0
  esz : b.esz = L.esz
  oks : ∀ x ∈ b.xs, okV x = true
  fzs : b.row = true → ∀ x ∈ b.xs, noRef x = true
  shape : (L.v = .slice none 0 0 ∧ b.xs = [] ∧ us = []) ∨ ∃ g cap cur, L.v = .slice (some ⟨g, 0, none⟩) b.xs.length cap ∧ B ≤ g ∧ w.heap[g]? = some (.cells cur b.elem (0, 0)) ∧ b.xs.length ≤ cap ∧ cap ≤ maxLen ∧ cur.size = cap * L.esz ∧ cur.toList.take (b.xs.length * L.esz) = flat us

theorem Inv.meet {B w0 σ H w} (h : Inv B w0 σ H w) {id : Nat} {b : Box} (hb : H[id]? = some b) (hl : b.live = true) : ∃ L us, Met B w0 σ H w id b L us := by
  obtain ⟨L, hL, hok⟩ := h.boxes id b hb hl
  obtain ⟨us, r1, r2, r3, r4⟩ := hok.reps
  refine ⟨L, us, hb, hl, hL, hok.tot, r1, r2, r3, r4, hok.nilp, hok.esz, hok.oks, hok.fzs, ?_⟩
  rcases r4.2 with ⟨hv, hn⟩ | ⟨g, cap, cur, hv, hg, hh, hn, hm, hs, ht⟩
  · have hx : b.xs = [] := List.eq_nil_of_length_eq_zero hn
    refine .inl ⟨hv, hx, ?_⟩
    rw [hx] at r1
    exact r1.nil_left
  · exact .inr ⟨g, cap, cur, hv, hg, hh, hn, hm, hs, ht⟩

theorem Met.fz {B w0 σ H w id b L us} (m : Met B w0 σ H w id b L us) (hr : b.row = true) : ∀ x ∈ b.xs, fzV x = true := fun x hx => by
  simp [fzV, m.oks x hx, m.fzs hr x hx]

theorem Met.len {B w0 σ H w id b L us} (m : Met B w0 σ H w id b L us) : us.length = b.xs.length := m.reps.length.symm

theorem Met.cell {B w0 σ H w id b L us} (m : Met B w0 σ H w id b L us) {g : Nat} (hg : L.v.ownBlock = some g) : ∀ j u, (flat us)[j]? = some u → w.cell? ⟨g, j, none⟩ = some u :=
  ownsRow_cells m.own hg

/-- A reference to elements of a row, as a slice value. -/
theorem lsl_view {B w0 σ H w} (h : Inv B w0 σ H w) {id off len tot : Nat} {v : Value} {b : Box} (hr : Reps σ w [.lsl id off len tot] [v]) (hb : boxAt H id tot = some b) :
    ∃ L us, Met B w0 σ H w id b L us ∧ b.xs.length = tot ∧ off + len ≤ tot ∧ isSub L.v L.esz off len v ∧
      ((L.v = .slice none 0 0 ∧ v = .slice none 0 0 ∧ off = 0 ∧ len = 0 ∧ tot = 0) ∨
       ∃ g cap k, L.v = .slice (some ⟨g, 0, none⟩) tot cap ∧ v = .slice (some ⟨g, k * L.esz, none⟩) len (cap - off) ∧ tot ≤ cap ∧ cap ≤ maxLen ∧ k ≤ off ∧ (off < cap → k = off)) := by
  obtain ⟨h1, h2, h3⟩ := boxAt_some hb
  obtain ⟨L, us, m⟩ := h.meet h1 h2
  cases hr with
  | lsl k1 k2 k3 k4 _ =>
    rename_i L'
    rw [m.box] at k1
    cases k1
    have htot : L.tot = tot := m.tot.trans h3
    obtain ⟨hol, hs⟩ := k3 htot
    refine ⟨L, us, m, h3, hol, hs, ?_⟩
    obtain ⟨a, n, c, k, e1, e2, e3, e4, e5⟩ := hs
    rcases m.shape with ⟨hv, hx, hu⟩ | ⟨g, cap, cur, hv, hg, hh, hn, hm, hsz, ht⟩
    · left
      rw [hv] at e1
      cases e1
      have : tot = 0 := by rw [← h3, hx]; rfl
      have hoff : off = 0 := by omega
      subst hoff
      refine ⟨hv, ?_, rfl, by omega, this⟩
      rw [e2]
      have : len = 0 := by omega
      subst this
      rfl
    · right
      rw [hv] at e1
      cases e1
      rw [h3] at hv hn
      refine ⟨g, _, k, hv, ?_, hn, hm, e4, e5⟩
      rw [e2]
      simp [Addr.add_mid]

theorem reps_sub {σ w es us} (h : Reps σ w es us) (off len : Nat) : Reps σ w ((es.drop off).take len) ((us.drop off).take len) := (h.drop off).take len

theorem frz0_reps {B w0 σ H w} (h : Inv B w0 σ H w) {x x' : V} {v : Value} (hr : Reps σ w [x] [v]) (hf : frz0 H x = some x') (ids : List Nat) (hids : ∀ i ∈ ids1 x, i ∈ ids) :
    Reps (σ.freeze H ids) w [x'] [v] := by
  have e := (h.freeze ids).2
  unfold frz0 at hf
  split at hf
  · cases hf; exact hr.ext e
  · cases hf; exact hr.ext e
  · cases hf
    refine Reps.ext ?_ e
    cases hr with
    | sltnil _ => exact .slnil .nil
    | sltemp a _ => exact .slemp a .nil
    | slt b o _ k0 k1 k2 k3 k4 k5 _ => exact .sl b o _ _ k0 k1 k2 k3 (Nat.le_refl _) k4 k5 .nil
  · rename_i id off len tot
    split at hf
    · rename_i b hb
      split at hf
      · rename_i hc
        simp only [Bool.and_eq_true, decide_eq_true_eq] at hc
        simp only [Option.some.injEq] at hf
        subst hf
        obtain ⟨L, us, m, hxl, hol, hs, hview⟩ := lsl_view h hr hb
        rcases hview with ⟨hv, hvv, ho, hl, ht⟩ | ⟨g, cap, k, hv, hvv, hle, hmx, hk1, hk2⟩
        · have hx : b.xs = [] := List.eq_nil_of_length_eq_zero (by omega)
          rw [hx, hvv]
          simp only [List.drop_nil, List.take_nil]
          exact .slnil .nil
        · rw [m.esz, hvv]
          have hlen : ((b.xs.drop off).take len).length = len := by simp; omega
          have hgoal := Reps.sl (σ := σ.freeze H ids) (w := w) (xs := []) (vs := []) (es := (b.xs.drop off).take len) (us := (us.drop off).take len) g (k * L.esz) (cap - off) L.esz
            ((reps_sub m.reps off len).ext e) (fun x hx => m.fz hc.1 x (List.mem_of_mem_drop (List.mem_of_mem_take hx))) (sizes_take (sizes_drop m.sizes off) len) (one_take (one_drop m.ones off) len) (by rw [hlen]; omega) (by omega) ?_ .nil
          · rw [hlen] at hgoal; exact hgoal
          · intro j u hu
            rw [flat_sub m.sizes] at hu
            have hj : j < len * L.esz := by
              have := (List.getElem?_eq_some_iff.1 hu).1
              simp at this
              omega
            rw [List.getElem?_take, if_pos hj, List.getElem?_drop] at hu
            have hlpos : 0 < len := by
              cases len with
              | zero => simp at hj
              | succ n => omega
            have hk : k = off := hk2 (by omega)
            subst hk
            have hown : L.v.ownBlock = some g := by rw [hv]; rfl
            refine ⟨.inr ⟨id, b, L, hids id (by simp [ids1]), m.hb, m.live, m.box, hown, ?_⟩, m.cell hown _ _ hu⟩
            have := (List.getElem?_eq_some_iff.1 hu).1
            rw [flat_length m.sizes, m.len] at this
            exact this
      · cases hf
    · cases hf
  · cases hf; exact hr.ext e
  · cases hf; exact hr.ext e
  · cases hf

theorem frz0_noRef {B w0 σ H w} (h : Inv B w0 σ H w) {x x' : V} {v : Value} (hr : Reps σ w [x] [v]) (hf : frz0 H x = some x') : noRef x' = true := by
  unfold frz0 at hf
  split at hf
  · cases hf; rfl
  · cases hf
    cases hr with
    | slnil _ => rfl
    | slemp a _ => rfl
    | sl b o c e' _ h0 h1 h2 h3 h4 h5 _ => exact fzV_noRefs h0
  · cases hf
    cases hr with
    | sltnil _ => rfl
    | sltemp a _ => rfl
    | slt b o e' _ h0 h1 h2 h3 h4 _ => exact fzV_noRefs h0
  · rename_i id off len tot
    split at hf
    · rename_i b hb
      split at hf
      · rename_i hc
        simp only [Bool.and_eq_true, decide_eq_true_eq] at hc
        simp only [Option.some.injEq] at hf
        subst hf
        obtain ⟨L, us, m, _⟩ := lsl_view h hr hb
        exact (noRefs_iff _).2 fun x hx => m.fzs hc.1 x (List.mem_of_mem_drop (List.mem_of_mem_take hx))
      · cases hf
    · cases hf
  · cases hf; rfl
  · cases hf; rfl
  · cases hf

theorem frzL_noRef {B w0 σ H w} (h : Inv B w0 σ H w) {xs xs' : List V} {vs : List Value} (hr : Reps σ w xs vs) (hf : frzL H xs = some xs') : noRefs xs' = true := by
  induction xs generalizing xs' vs with
  | nil => simp only [frzL, Option.some.injEq] at hf; subst hf; rfl
  | cons x xs ih =>
    obtain ⟨v, vs', rfl, h1, h2⟩ := hr.cons_left
    simp only [frzL] at hf
    split at hf
    · rename_i w1 ws hw hws
      simp only [Option.some.injEq] at hf
      subst hf
      simp [noRefs, frz0_noRef h h1 hw, ih h2 hws]
    · cases hf

theorem frz_noRef {B w0 σ H w} (h : Inv B w0 σ H w) {x x' : V} {v : Value} (hr : Reps σ w [x] [v]) (hf : frz H x = some x') : noRef x' = true := by
  unfold frz at hf
  split at hf
  · rename_i cs
    cases hr with
    | agg h1 ho _ =>
      cases hl : frzL H cs with
      | none => simp [hl] at hf
      | some cs' =>
        simp only [hl, Option.map_some, Option.some.injEq] at hf
        subst hf
        exact frzL_noRef h h1 hl
  · exact frz0_noRef h hr hf

theorem frzAll_noRef {B w0 σ H w} (h : Inv B w0 σ H w) {xs xs' : List V} {vs : List Value} (hr : Reps σ w xs vs) (hf : frzAll H xs = some xs') : noRefs xs' = true := by
  induction xs generalizing xs' vs with
  | nil => simp only [frzAll, Option.some.injEq] at hf; subst hf; rfl
  | cons x xs ih =>
    obtain ⟨v, vs', rfl, h1, h2⟩ := hr.cons_left
    simp only [frzAll] at hf
    split at hf
    · rename_i w1 ws hw hws
      simp only [Option.some.injEq] at hf
      subst hf
      simp [noRefs, frz_noRef h h1 hw, ih h2 hws]
    · cases hf

theorem frzL_reps {B w0 σ H w} (h : Inv B w0 σ H w) {xs xs' : List V} {vs : List Value} (hr : Reps σ w xs vs) (hf : frzL H xs = some xs') (ids : List Nat) (hids : ∀ i ∈ xs.flatMap ids1, i ∈ ids) :
    Reps (σ.freeze H ids) w xs' vs := by
  induction xs generalizing xs' vs with
  | nil =>
    cases hr.nil_left
    simp only [frzL, Option.some.injEq] at hf
    subst hf
    exact .nil
  | cons x xs ih =>
    obtain ⟨v, vs', rfl, h1, h2⟩ := hr.cons_left
    simp only [frzL] at hf
    split at hf
    · rename_i w1 ws hw hws
      simp only [Option.some.injEq] at hf
      subst hf
      refine Reps.cons_iff.2 ⟨frz0_reps h h1 hw ids (fun i hi => hids i (by simp [hi])), ih h2 hws (fun i hi => hids i ?_)⟩
      simp only [List.flatMap_cons, List.mem_append]
      exact .inr hi
    · cases hf

theorem frz_reps {B w0 σ H w} (h : Inv B w0 σ H w) {x x' : V} {v : Value} (hr : Reps σ w [x] [v]) (hf : frz H x = some x') (ids : List Nat) (hids : ∀ i ∈ idsA x, i ∈ ids) :
    Reps (σ.freeze H ids) w [x'] [v] := by
  unfold frz at hf
  split at hf
  · rename_i cs
    cases hr with
    | agg h1 ho _ =>
      cases hl : frzL H cs with
      | none => simp [hl] at hf
      | some cs' =>
        simp only [hl, Option.map_some, Option.some.injEq] at hf
        subst hf
        exact .agg (frzL_reps h h1 hl ids (by simpa [idsA] using hids)) ho .nil
  · rename_i hne
    refine frz0_reps h hr hf ids (fun i hi => hids i ?_)
    cases x <;> simp_all [idsA, ids1]

theorem frzAll_reps {B w0 σ H w} (h : Inv B w0 σ H w) {xs xs' : List V} {vs : List Value} (hr : Reps σ w xs vs) (hf : frzAll H xs = some xs') (ids : List Nat) (hids : ∀ i ∈ xs.flatMap idsA, i ∈ ids) :
    Reps (σ.freeze H ids) w xs' vs := by
  induction xs generalizing xs' vs with
  | nil =>
    cases hr.nil_left
    simp only [frzAll, Option.some.injEq] at hf
    subst hf
    exact .nil
  | cons x xs ih =>
    obtain ⟨v, vs', rfl, h1, h2⟩ := hr.cons_left
    simp only [frzAll] at hf
    split at hf
    · rename_i w1 ws hw hws
      simp only [Option.some.injEq] at hf
      subst hf
      refine Reps.cons_iff.2 ⟨frz_reps h h1 hw ids (fun i hi => hids i (by simp [hi])), ih h2 hws (fun i hi => hids i ?_)⟩
      simp only [List.flatMap_cons, List.mem_append]
      exact .inr hi
    · cases hf

/-! ### surely nil slices shown as empty ones -/

theorem retype1_reps {σ w x v} (e : Nat) (h : Reps σ w [x] [v]) : Reps σ w [retype1 e x] [v] := by
  unfold retype1
  split
  · cases h with
    | slnil _ => exact .slnil .nil
  · exact h

theorem retypeL_reps {σ w} : ∀ (es : List Nat) {xs : List V} {vs : List Value}, Reps σ w xs vs → Reps σ w (retypeL es xs) vs := by
  intro es
  induction es with
  | nil => intro xs vs h; simpa [retypeL] using h
  | cons e es ih =>
    intro xs vs h
    cases xs with
    | nil => simpa [retypeL] using h
    | cons x xs =>
      obtain ⟨v, vs', rfl, h1, h2⟩ := h.cons_left
      exact Reps.cons_iff.2 ⟨retype1_reps e h1, ih h2⟩

theorem retype_reps {σ w x v} (es : List Nat) (h : Reps σ w [x] [v]) : Reps σ w [retype es x] [v] := by
  unfold retype
  split
  · cases h with
    | agg h1 ho _ => exact .agg (retypeL_reps es h1) ho .nil
  · exact retype1_reps _ h

theorem retypes_reps {σ w} (es : List Nat) {xs : List V} {vs : List Value} (h : Reps σ w xs vs) : Reps σ w (xs.map (retype es)) vs := by
  induction xs generalizing vs with
  | nil => simpa using h
  | cons x xs ih =>
    obtain ⟨v, vs', rfl, h1, h2⟩ := h.cons_left
    exact Reps.cons_iff.2 ⟨retype_reps es h1, ih h2⟩

theorem retypeAll_reps {σ w} (rows : TypeId → List Nat) : ∀ (ts : List TypeId) {xs : List V} {vs : List Value}, Reps σ w xs vs → Reps σ w (retypeAll rows ts xs) vs := by
  intro ts
  induction ts with
  | nil => intro xs vs h; simpa [retypeAll] using h
  | cons t ts ih =>
    intro xs vs h
    cases xs with
    | nil => simpa [retypeAll] using h
    | cons x xs =>
      obtain ⟨v, vs', rfl, h1, h2⟩ := h.cons_left
      exact Reps.cons_iff.2 ⟨retype_reps _ h1, ih h2⟩

theorem retype1_noRef (e : Nat) (x : V) : noRef (retype1 e x) = noRef x := by
  unfold retype1; split <;> simp [noRef]
theorem retypeL_noRef : ∀ (es : List Nat) (xs : List V), noRefs (retypeL es xs) = noRefs xs := by
  intro es
  induction es with
  | nil => intro xs; simp [retypeL]
  | cons e es ih => intro xs; cases xs <;> simp [retypeL, noRefs, retype1_noRef, ih]
theorem retype_noRef (es : List Nat) (x : V) : noRef (retype es x) = noRef x := by
  unfold retype; split
  · simp [noRef, retypeL_noRef]
  · exact retype1_noRef _ _
theorem retypeAll_noRef (rows : TypeId → List Nat) : ∀ (ts : List TypeId) (xs : List V), noRefs (retypeAll rows ts xs) = noRefs xs := by
  intro ts
  induction ts with
  | nil => intro xs; simp [retypeAll]
  | cons t ts ih => intro xs; cases xs <;> simp [retypeAll, noRefs, retype_noRef, ih]
theorem retype1_ok (e : Nat) (x : V) : okV (retype1 e x) = okV x := by
  unfold retype1; split <;> simp [okV]
theorem retype_ok (es : List Nat) (x : V) : okV (retype es x) = okV x := by
  unfold retype; split
  · simp [okV]
  · exact retype1_ok _ _
theorem retypeL_length : ∀ (es : List Nat) (xs : List V), (retypeL es xs).length = xs.length := by
  intro es
  induction es with
  | nil => intro xs; simp [retypeL]
  | cons e es ih => intro xs; cases xs <;> simp [retypeL, ih]
theorem retype1_len (e : Nat) (x : V) : (retype1 e x).cells.length = x.cells.length := by
  unfold retype1; split <;> simp [V.cells]
theorem retype_len (es : List Nat) (x : V) : (retype es x).cells.length = x.cells.length := by
  unfold retype; split
  · simp [V.cells, retypeL_length]
  · exact retype1_len _ _

/-- The cells of a value that may lie in memory. -/
theorem Reps.cells {σ w x v} (h : Reps σ w [x] [v]) (ho : okV x = true) : Reps σ w x.cells v.cells.toList ∧ (∀ u ∈ v.cells.toList, u.oneCell' = true) := by
  cases h with
  | und u h => simp [okV] at ho
  | no h => simp [okV] at ho
  | tup _ h => simp [okV] at ho
  | agg h1 h2 _ => exact ⟨by simpa [V.cells, Value.cells] using h1, by simpa [Value.cells] using h2⟩
  | lit hl _ =>
    cases v <;> simp [leaf] at hl <;> simp [V.cells, Value.cells, Value.oneCell'] <;> exact .lit (by simp [leaf, hl]) .nil
  | slnil h => exact ⟨.slnil .nil, by simp [Value.cells, Value.oneCell']⟩
  | sltnil h => exact ⟨.sltnil .nil, by simp [Value.cells, Value.oneCell']⟩
  | slemp a h => exact ⟨.slemp a .nil, by simp [Value.cells, Value.oneCell']⟩
  | sltemp a h => exact ⟨.sltemp a .nil, by simp [Value.cells, Value.oneCell']⟩
  | sl b o c e h0 h1 h2 h3 h4 h5 h6 _ => exact ⟨.sl b o c e h0 h1 h2 h3 h4 h5 h6 .nil, by simp [Value.cells, Value.oneCell']⟩
  | slt b o e h0 h1 h2 h3 h4 h5 _ => exact ⟨.slt b o e h0 h1 h2 h3 h4 h5 .nil, by simp [Value.cells, Value.oneCell']⟩
  | lsl h1 h2 h3 h4 _ =>
    obtain ⟨a, n, c, rfl⟩ := h4
    exact ⟨.lsl h1 h2 h3 ⟨a, n, c, rfl⟩ .nil, by simp [Value.cells, Value.oneCell']⟩
  | ptr g h1 h2 h3 h4 _ =>
    subst h4
    exact ⟨.ptr g h1 h2 h3 rfl .nil, by simp [Value.cells, Value.oneCell']⟩
  | ept b o e i off h0 h1 h2 h3 h4 _ => exact ⟨.ept b o e i off h0 h1 h2 h3 h4 .nil, by simp [Value.cells, Value.oneCell']⟩
  | fn h1 h2 _ => exact ⟨.fn h1 h2 .nil, by simp [Value.cells, Value.oneCell']⟩
  | ifc h1 _ => exact ⟨.ifc h1 .nil, by simp [Value.cells, Value.oneCell']⟩

theorem Reps.cells_len {σ w x v} (h : Reps σ w [x] [v]) (ho : okV x = true) : x.cells.length = v.cells.size := by
  have := (h.cells ho).1.length
  simpa using this

end Go.Proofs.Ytcjccaonfgcakaa.Le
