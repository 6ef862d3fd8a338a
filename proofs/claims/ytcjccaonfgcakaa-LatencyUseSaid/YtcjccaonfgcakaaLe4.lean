/-
  An evaluator for the model's code over pure values: rows of cells, and freezing.
-/
import Derived.Test.YtcjccaonfgcakaaLe3
namespace Go.Proofs.Ytcjccaonfgcakaa.Le
set_option linter.unusedVariables false
open Go.RowKit (Below)

/-! ### rows of elements of one size -/

theorem flat_nil : flat [] = [] := rfl
theorem flat_cons (u : Value) (us : List Value) : flat (u :: us) = u.cells.toList ++ flat us := rfl
theorem flat_append (us vs : List Value) : flat (us ++ vs) = flat us ++ flat vs := by simp [flat]
theorem flat_length {us : List Value} {e : Nat} (h : ∀ u ∈ us, u.cells.size = e) : (flat us).length = us.length * e := by
  induction us with
  | nil => simp [flat_nil]
  | cons u us ih =>
    rw [flat_cons, List.length_append, ih (fun v hv => h v (by simp [hv]))]
    have := h u (by simp)
    simp [this, Nat.add_mul, Nat.add_comm]

theorem sizes_drop {us : List Value} {e : Nat} (h : ∀ u ∈ us, u.cells.size = e) (k : Nat) : ∀ u ∈ us.drop k, u.cells.size = e := fun u hu => h u (List.mem_of_mem_drop hu)
theorem sizes_take {us : List Value} {e : Nat} (h : ∀ u ∈ us, u.cells.size = e) (k : Nat) : ∀ u ∈ us.take k, u.cells.size = e := fun u hu => h u (List.mem_of_mem_take hu)

theorem flat_drop {us : List Value} {e : Nat} (h : ∀ u ∈ us, u.cells.size = e) (k : Nat) : flat (us.drop k) = (flat us).drop (k * e) := by
  induction us generalizing k with
  | nil => simp [flat_nil]
  | cons u us ih =>
    cases k with
    | zero => simp
    | succ k =>
      have hu := h u (by simp)
      rw [List.drop_succ_cons, ih (fun v hv => h v (by simp [hv])), flat_cons, Nat.add_mul, Nat.one_mul, List.drop_append]
      have h1 : k * e + e - u.cells.toList.length = k * e := by simp [hu]
      have h2 : u.cells.toList.drop (k * e + e) = [] := by apply List.drop_eq_nil_of_le; simp [hu]
      rw [h1, h2, List.nil_append]

theorem flat_take {us : List Value} {e : Nat} (h : ∀ u ∈ us, u.cells.size = e) (k : Nat) : flat (us.take k) = (flat us).take (k * e) := by
  induction us generalizing k with
  | nil => simp [flat_nil]
  | cons u us ih =>
    cases k with
    | zero => simp [flat_nil]
    | succ k =>
      have hu := h u (by simp)
      rw [List.take_succ_cons, flat_cons, ih (fun v hv => h v (by simp [hv])), flat_cons, Nat.add_mul, Nat.one_mul, List.take_append]
      have h1 : k * e + e - u.cells.toList.length = k * e := by simp [hu]
      have h2 : u.cells.toList.take (k * e + e) = u.cells.toList := by apply List.take_of_length_le; simp [hu]
      rw [h1, h2]

theorem flat_sub {us : List Value} {e : Nat} (h : ∀ u ∈ us, u.cells.size = e) (off len : Nat) : flat ((us.drop off).take len) = ((flat us).drop (off * e)).take (len * e) := by
  rw [flat_take (sizes_drop h off), flat_drop h]

theorem flat_at {us : List Value} {e : Nat} (h : ∀ u ∈ us, u.cells.size = e) {i : Nat} {u : Value} (hu : us[i]? = some u) : ∀ j, j < e → (flat us)[i * e + j]? = u.cells.toList[j]? := by
  induction us generalizing i with
  | nil => simp at hu
  | cons v us ih =>
    intro j hj
    have hv := h v (by simp)
    cases i with
    | zero =>
      simp at hu
      subst hu
      rw [flat_cons, Nat.zero_mul, Nat.zero_add, List.getElem?_append_left (by simp [hv]; exact hj)]
    | succ i =>
      simp at hu
      have := ih (fun v hv => h v (by simp [hv])) hu j hj
      rw [flat_cons, List.getElem?_append_right (by simp [hv, Nat.add_mul]; omega), ← this]
      congr 1
      simp [hv, Nat.add_mul]
      omega

theorem flat_set {us : List Value} {e : Nat} (h : ∀ u ∈ us, u.cells.size = e) {i : Nat} {u u' : Value} (hu : us[i]? = some u) (hu' : u'.cells.size = e) :
    flat (us.set i u') = (flat us).take (i * e) ++ u'.cells.toList ++ (flat us).drop (i * e + e) := by
  induction us generalizing i with
  | nil => simp at hu
  | cons v us ih =>
    have hv := h v (by simp)
    cases i with
    | zero =>
      simp at hu
      subst hu
      rw [List.set_cons_zero, flat_cons, flat_cons]
      simp [hv]
    | succ i =>
      simp at hu
      rw [List.set_cons_succ, flat_cons, ih (fun v hv => h v (by simp [hv])) hu, flat_cons, Nat.add_mul, Nat.one_mul]
      rw [List.take_append, List.drop_append]
      have h1 : i * e + e - v.cells.toList.length = i * e := by simp [hv]
      have h2 : v.cells.toList.take (i * e + e) = v.cells.toList := by apply List.take_of_length_le; simp [hv]
      have h3 : i * e + e + e - v.cells.toList.length = i * e + e := by simp [hv]
      have h4 : v.cells.toList.drop (i * e + e + e) = [] := by apply List.drop_eq_nil_of_le; simp [hv]; try omega
      rw [h1, h2, h3, h4]
      simp [List.append_assoc]

theorem one_drop {us : List Value} (h : ∀ u ∈ flat us, u.oneCell' = true) (k : Nat) : ∀ u ∈ flat (us.drop k), u.oneCell' = true := by
  intro u hu
  apply h
  simp only [flat, List.mem_flatMap] at hu ⊢
  obtain ⟨a, ha, hb⟩ := hu
  exact ⟨a, List.mem_of_mem_drop ha, hb⟩
theorem one_take {us : List Value} (h : ∀ u ∈ flat us, u.oneCell' = true) (k : Nat) : ∀ u ∈ flat (us.take k), u.oneCell' = true := by
  intro u hu
  apply h
  simp only [flat, List.mem_flatMap] at hu ⊢
  obtain ⟨a, ha, hb⟩ := hu
  exact ⟨a, List.mem_of_mem_take ha, hb⟩

/-! ### freezing -/

/-- The cells that a box shows when it is frozen. -/
def fzOf (σ : Sg) (H : Heap) (ids : List Nat) (b c : Nat) : Prop :=
  ∃ id bx L, id ∈ ids ∧ H[id]? = some bx ∧ bx.live = true ∧ σ.box id = some L ∧ L.v.ownBlock = some b ∧ c < bx.xs.length * L.esz

def Sg.freeze (σ : Sg) (H : Heap) (ids : List Nat) : Sg := { σ with fz := fun b c => σ.fz b c ∨ fzOf σ H ids b c }

theorem bump_get (H : Heap) (ids : List Nat) (i : Nat) : (bump H ids)[i]? = (H[i]?).map fun b => if i ∈ ids then { b with floor := b.xs.length } else b := by
  induction ids generalizing H with
  | nil => simp [bump]
  | cons k ks ih =>
    rw [bump, ih, List.getElem?_modify]
    cases hh : H[i]? with
    | none => simp
    | some b =>
      by_cases hk : k = i
      · subst hk; simp
      · by_cases hm : i ∈ ks
        · simp [hm, hk]
        · have hk' : ¬ i = k := fun h => hk h.symm
          simp [hm, hk, hk']

theorem bump_length (H : Heap) (ids : List Nat) : (bump H ids).length = H.length := by
  induction ids generalizing H with
  | nil => rfl
  | cons k ks ih => rw [bump, ih]; simp

theorem freeB_bump (H : Heap) (ids : List Nat) (k : Nat) : freeB (bump H ids) k = freeB H k := by
  unfold freeB
  rw [bump_get, bump_length]
  cases H[k]? with
  | none => rfl
  | some b => simp only [Option.map_some]; split <;> rfl

theorem ownsRow_cells {w : World} {B : Nat} {e : TypeId} {esz : Nat} {v : Value} {n : Nat} {xs : List Value} {g : Nat} (h : w.ownsRow B e esz v n xs) (hg : v.ownBlock = some g) :
    ∀ j u, xs[j]? = some u → w.cell? ⟨g, j, none⟩ = some u := by
  intro j u hu
  have := h.cells hg j u hu
  rw [Addr.add_mid, Nat.zero_add] at this
  exact this

theorem Inv.freeze {B w0 σ H w} (h : Inv B w0 σ H w) (ids : List Nat) : Inv B w0 (σ.freeze H ids) (bump H ids) w ∧ Ext σ w (σ.freeze H ids) w := by
  have e : Ext σ w (σ.freeze H ids) w := ⟨fun id L hL => ⟨L, hL, rfl, .inl rfl⟩, fun b c hc => ⟨.inl hc, rfl⟩⟩
  have hget : ∀ i b, (bump H ids)[i]? = some b → ∃ b0, H[i]? = some b0 ∧ b.live = b0.live ∧ b.xs = b0.xs ∧ b.elem = b0.elem ∧ b.esz = b0.esz ∧ b.nilp = b0.nilp ∧ b.row = b0.row ∧ (b.floor = if i ∈ ids then b0.xs.length else b0.floor) := by
    intro i b hb
    rw [bump_get] at hb
    cases hh : H[i]? with
    | none => simp [hh] at hb
    | some b0 =>
      simp only [hh, Option.map_some, Option.some.injEq] at hb
      refine ⟨b0, rfl, ?_⟩
      subst hb
      split <;> simp
  refine ⟨⟨h.below, h.size, fun id L hL => by
    obtain ⟨b1, c1, c2⟩ := h.dom id L hL
    exact ⟨if id ∈ ids then { b1 with floor := b1.xs.length } else b1, by rw [bump_get, c1]; rfl, by split <;> exact c2⟩, ?_, ?_, ?_, ?_, ?_, ?_⟩, e⟩
  · intro id bx hb hl
    obtain ⟨b0, h0, h1, h2, h3, h4, h5, h6, _⟩ := hget id bx hb
    obtain ⟨L, hL, hok⟩ := h.boxes id b0 h0 (by rw [← h1]; exact hl)
    obtain ⟨us, r1, r2, r3, r4⟩ := hok.reps
    refine ⟨L, hL, ⟨by rw [h2]; exact hok.tot, ⟨us, ?_, r2, r3, ?_⟩, by rw [h5]; exact hok.nilp, by rw [h4]; exact hok.esz, by rw [h2]; exact hok.oks, fun hr => by rw [h2]; exact hok.fzs (by rw [← h6]; exact hr)⟩⟩
    · rw [h2]; exact r1.ext e
    · rw [h2, h3]; exact r4
  · intro i j b1 b2 L1 L2 g h1 h2 l1 l2 s1 s2 g1 g2
    obtain ⟨c1, k1, k2, _⟩ := hget i b1 h1
    obtain ⟨c2, m1, m2, _⟩ := hget j b2 h2
    exact h.apart i j c1 c2 L1 L2 g k1 m1 (by rw [← k2]; exact l1) (by rw [← m2]; exact l2) s1 s2 g1 g2
  · intro b c hc
    rcases hc with hc | ⟨id, bx, L, _, hb, hl, hL, hg, hlt⟩
    · exact h.cells b c hc
    · obtain ⟨L', hL', hok⟩ := h.boxes id bx hb hl
      rw [hL] at hL'
      cases hL'
      obtain ⟨us, r1, r2, r3, r4⟩ := hok.reps
      have hlen : c < (flat us).length := by rw [r4.1]; exact hlt
      exact ⟨_, ownsRow_cells r4 hg c _ (List.getElem?_eq_getElem hlen)⟩
  · intro b c hc i bx L hb hl hL hg
    obtain ⟨b0, h0, h1, h2, h3, h4, h5, _, h6⟩ := hget i bx hb
    have hl0 : b0.live = true := by rw [← h1]; exact hl
    rcases hc with hc | ⟨id, bx', L', hid, hb', hl', hL', hg', hlt⟩
    · have := h.floor b c hc i b0 L h0 hl0 hL hg
      rw [h6]
      split
      · obtain ⟨L2, hL2, hok⟩ := h.boxes i b0 h0 hl0
        rw [show σ.box i = some L from hL] at hL2
        cases hL2
        obtain ⟨u, hu⟩ := h.cells b c hc
        exact Nat.lt_of_lt_of_le this (Nat.mul_le_mul_right _ (h.low i b0 h0 hl0))
      · exact this
    · have hi : id = i := h.apart id i bx' b0 L' L b hb' h0 hl' hl0 hL' hL hg' hg
      subst hi
      rw [h0] at hb'
      cases hb'
      rw [show σ.box id = some L from hL] at hL'
      cases hL'
      rw [h6, if_pos hid]
      exact hlt
  · intro i bx hb hl
    obtain ⟨b0, h0, h1, h2, h3, h4, h5, _, h6⟩ := hget i bx hb
    rw [h6, h2]
    split
    · exact Nat.le_refl _
    · exact h.low i b0 h0 (by rw [← h1]; exact hl)
  · intro b c hc hlt
    rcases hc with hc | ⟨id, bx', L', hid, hb', hl', hL', hg', hlt'⟩
    · exact h.old b c hc hlt
    · obtain ⟨L2, hL2, hok⟩ := h.boxes id bx' hb' hl'
      rw [show σ.box id = some L' from hL'] at hL2
      cases hL2
      have := (hok.block_lt hg').1
      omega

end Go.Proofs.Ytcjccaonfgcakaa.Le
