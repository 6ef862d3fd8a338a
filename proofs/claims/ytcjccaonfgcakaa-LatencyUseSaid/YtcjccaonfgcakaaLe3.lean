/-
  An evaluator for the model's code over pure values: the invariant of its boxes, and the three ways in which a step turns it.
-/
import Derived.Test.YtcjccaonfgcakaaLe2
namespace Go.Proofs.Ytcjccaonfgcakaa.Le
set_option linter.unusedVariables false
open Go.RowKit (Below)

structure BoxOK (σ : Sg) (w : World) (B : Nat) (bx : Box) (L : Loc) : Prop where
  tot : L.tot = bx.xs.length
  reps : ∃ us, Reps σ w bx.xs us ∧ (∀ u ∈ us, u.cells.size = L.esz) ∧ (∀ u ∈ flat us, u.oneCell' = true) ∧ w.ownsRow B bx.elem L.esz L.v bx.xs.length (flat us)
  nilp : bx.nilp = true → L.v = .slice none 0 0
  esz : bx.esz = L.esz
  oks : ∀ x ∈ bx.xs, okV x = true
  fzs : bx.row = true → ∀ x ∈ bx.xs, noRef x = true

/-- Where the code began: its world, and what was frozen then. -/
structure Start where
  w : World
  fz : Nat → Nat → Prop

structure Inv (B : Nat) (w0 : Start) (σ : Sg) (H : Heap) (w : World) : Prop where
  below : Below B w0.w w
  size : B ≤ w.heap.size
  dom : ∀ id L, σ.box id = some L → ∃ bx, H[id]? = some bx ∧ bx.live = true
  boxes : ∀ id bx, H[id]? = some bx → bx.live = true → ∃ L, σ.box id = some L ∧ BoxOK σ w B bx L
  apart : ∀ id id' bx bx' L L' g, H[id]? = some bx → H[id']? = some bx' → bx.live = true → bx'.live = true → σ.box id = some L → σ.box id' = some L' →
    L.v.ownBlock = some g → L'.v.ownBlock = some g → id = id'
  cells : ∀ b c, σ.fz b c → ∃ u, w.cell? ⟨b, c, none⟩ = some u
  floor : ∀ b c, σ.fz b c → ∀ id bx L, H[id]? = some bx → bx.live = true → σ.box id = some L → L.v.ownBlock = some b → c < bx.floor * L.esz
  low : ∀ (id : Nat) (bx : Box), H[id]? = some bx → bx.live = true → bx.floor ≤ bx.xs.length
  old : ∀ b c, σ.fz b c → b < B → w0.fz b c

theorem Inv.dom_lt {B w0 σ H w} (h : Inv B w0 σ H w) {id L} (hb : σ.box id = some L) : id < H.length := by
  obtain ⟨bx, h1, _⟩ := h.dom id L hb
  exact (List.getElem?_eq_some_iff.1 h1).1

theorem freeB_iff {H : Heap} {k : Nat} (h : freeB H k = true) : (H[k]? = none ∧ k = H.length) ∨ ∃ b, H[k]? = some b ∧ b.live = false := by
  unfold freeB at h
  split at h
  · rename_i b hb; exact .inr ⟨b, hb, by simpa using h⟩
  · rename_i hb; exact .inl ⟨hb, by simpa using h⟩

theorem freeB_end (H : Heap) : freeB H H.length = true := by simp [freeB]

theorem place_get {H : Heap} {k : Nat} (h : freeB H k = true) (b : Box) (id : Nat) : (place H k b)[id]? = if id = k then some b else H[id]? := by
  unfold place
  rcases freeB_iff h with ⟨_, hk⟩ | ⟨b0, hb, _⟩
  · subst hk
    rw [if_neg (Nat.lt_irrefl _), List.getElem?_append]
    by_cases hid : id = H.length
    · subst hid; simp
    · by_cases hlt : id < H.length
      · simp [hid, hlt]
      · rw [if_neg hlt, if_neg hid, List.getElem?_eq_none (by simp; omega), List.getElem?_eq_none (by omega)]
  · have hlt := (List.getElem?_eq_some_iff.1 hb).1
    rw [if_pos hlt, List.getElem?_set]
    by_cases hid : k = id
    · subst hid; simp [hlt]
    · rw [if_neg hid, if_neg (fun e => hid e.symm)]

theorem place_end (H : Heap) (b : Box) : place H H.length b = H ++ [b] := by simp [place]

theorem cell_lt {w : World} {b c : Nat} {u : Value} (h : w.cell? ⟨b, c, none⟩ = some u) : b < w.heap.size := block_lt_of_cell h

theorem BoxOK.kept {σ w B bx L σ' w'} {row : Option Nat} (h : BoxOK σ w B bx L) (e : Ext σ w σ' w') (hg : w.grownBy w' row) (hne : L.v.ownBlock = none ∨ L.v.ownBlock ≠ row) : BoxOK σ' w' B bx L := by
  obtain ⟨us, h1, h2, h3, h4⟩ := h.reps
  exact ⟨h.tot, ⟨us, h1.ext e, h2, h3, h4.kept hg hne⟩, h.nilp, h.esz, h.oks, h.fzs⟩

theorem BoxOK.block_lt {σ w B bx L g} (h : BoxOK σ w B bx L) (hg : L.v.ownBlock = some g) : B ≤ g ∧ g < w.heap.size := by
  obtain ⟨us, h1, h2, h3, h4⟩ := h.reps
  exact h4.lt g hg

/-- The same boxes, another world that has at most grown. -/
theorem Inv.grown {B w0 σ H w w'} (h : Inv B w0 σ H w) (hg : w.grownBy w' none) : Inv B w0 σ H w' ∧ Ext σ w σ w' := by
  have hcell : ∀ b c, b < w.heap.size → w'.cell? ⟨b, c, none⟩ = w.cell? ⟨b, c, none⟩ := fun b c hb =>
    World.cell?_of_block (hg.block b hb (by simp))
  have e : Ext σ w σ w' := ⟨fun id L hL => ⟨L, hL, rfl, .inl rfl⟩, fun b c hc => ⟨hc, by
    obtain ⟨u, hu⟩ := h.cells b c hc
    exact hcell b c (cell_lt hu)⟩⟩
  refine ⟨⟨h.below.grown hg h.size (by simp), Nat.le_trans h.size hg.size, h.dom, ?_, h.apart, ?_, h.floor, h.low, h.old⟩, e⟩
  · intro id bx hb hl
    obtain ⟨L, hL, hok⟩ := h.boxes id bx hb hl
    refine ⟨L, hL, hok.kept e hg ?_⟩
    cases L.v.ownBlock with
    | none => exact .inl rfl
    | some g => exact .inr (by simp)
  · intro b c hc
    obtain ⟨u, hu⟩ := h.cells b c hc
    exact ⟨u, (hcell b c (cell_lt hu)).trans hu⟩

def Sg.put (σ : Sg) (id : Nat) (L : Loc) : Sg := { σ with box := fun i => if i = id then some L else σ.box i }

/-- A new box. -/
theorem Inv.push {B w0 σ H w w'} (h : Inv B w0 σ H w) (hg : w.grownBy w' none) {k : Nat} (hk : freeB H k = true) (bx : Box) (hlive : bx.live = true) (L : Loc) (hlow : bx.floor ≤ bx.xs.length)
    (hnew : ∀ g, L.v.ownBlock = some g → w.heap.size ≤ g) (hok : Ext σ w (σ.put k L) w' → BoxOK (σ.put k L) w' B bx L) :
    Inv B w0 (σ.put k L) (place H k bx) w' ∧ Ext σ w (σ.put k L) w' := by
  have hnone : σ.box k = none := by
    cases hb : σ.box k with
    | none => rfl
    | some L' =>
      exfalso
      obtain ⟨b1, c1, c2⟩ := h.dom _ _ hb
      rcases freeB_iff hk with ⟨hn, _⟩ | ⟨b0, hb0, hl0⟩
      · rw [hn] at c1; cases c1
      · rw [hb0] at c1; cases c1; rw [hl0] at c2; cases c2
  obtain ⟨h', e0⟩ := h.grown hg
  have e : Ext σ w (σ.put k L) w' := by
    refine ⟨fun id L' hL' => ⟨L', ?_, rfl, .inl rfl⟩, e0.fz⟩
    have : id ≠ k := fun hh => by rw [hh, hnone] at hL'; cases hL'
    simp [Sg.put, this, hL']
  have e' : Ext σ w' (σ.put k L) w' := by
    refine ⟨e.box, fun b c hc => ⟨hc, rfl⟩⟩
  have hold : ∀ id bx', id ≠ k → (place H k bx)[id]? = some bx' → H[id]? = some bx' := by
    intro id bx' hid hh
    rw [place_get hk, if_neg hid] at hh
    exact hh
  have hget : (place H k bx)[k]? = some bx := by rw [place_get hk, if_pos rfl]
  refine ⟨⟨h'.below, h'.size, ?_, ?_, ?_, h'.cells, ?_, ?_, h'.old⟩, e⟩
  · intro id L' hL'
    by_cases hid : id = k
    · subst hid; exact ⟨bx, hget, hlive⟩
    · simp only [Sg.put, hid, if_false] at hL'
      obtain ⟨b1, c1, c2⟩ := h.dom id L' hL'
      exact ⟨b1, by rw [place_get hk, if_neg hid]; exact c1, c2⟩
  · intro id bx' hb hl
    by_cases hid : id = k
    · subst hid
      rw [hget] at hb
      cases hb
      exact ⟨L, by simp [Sg.put], hok e⟩
    · obtain ⟨L', hL', hok'⟩ := h'.boxes id bx' (hold id bx' hid hb) hl
      refine ⟨L', by simp [Sg.put, hid, hL'], ?_⟩
      obtain ⟨us, h1, h2, h3, h4⟩ := hok'.reps
      exact ⟨hok'.tot, ⟨us, h1.ext e', h2, h3, h4⟩, hok'.nilp, hok'.esz, hok'.oks, hok'.fzs⟩
  · intro id id' bx1 bx2 L1 L2 g hb1 hb2 hl1 hl2 hL1 hL2 hg1 hg2
    by_cases hid : id = k
    · by_cases hid' : id' = k
      · rw [hid, hid']
      · exfalso
        subst hid
        simp only [Sg.put, if_true] at hL1
        cases hL1
        simp only [Sg.put, hid', if_false] at hL2
        have hb2' := hold id' bx2 hid' hb2
        obtain ⟨L', hL', hok'⟩ := h.boxes id' bx2 hb2' hl2
        rw [hL2] at hL'
        cases hL'
        have := (hok'.block_lt hg2).2
        have := hnew g hg1
        omega
    · by_cases hid' : id' = k
      · exfalso
        subst hid'
        simp only [Sg.put, if_true] at hL2
        cases hL2
        simp only [Sg.put, hid, if_false] at hL1
        have hb1' := hold id bx1 hid hb1
        obtain ⟨L', hL', hok'⟩ := h.boxes id bx1 hb1' hl1
        rw [hL1] at hL'
        cases hL'
        have := (hok'.block_lt hg1).2
        have := hnew g hg2
        omega
      · simp only [Sg.put, hid, hid', if_false] at hL1 hL2
        exact h.apart id id' bx1 bx2 L1 L2 g (hold id bx1 hid hb1) (hold id' bx2 hid' hb2) hl1 hl2 hL1 hL2 hg1 hg2
  · intro b c hc id bx' L' hb hl hL' hg'
    by_cases hid : id = k
    · exfalso
      subst hid
      simp only [Sg.put, if_true] at hL'
      cases hL'
      obtain ⟨u, hu⟩ := h.cells b c hc
      have := cell_lt hu
      have := hnew b hg'
      omega
    · simp only [Sg.put, hid, if_false] at hL'
      exact h.floor b c hc id bx' L' (hold id bx' hid hb) hl hL' hg'
  · intro id bx' hb hl
    by_cases hid : id = k
    · subst hid
      rw [hget] at hb
      cases hb
      exact hlow
    · exact h.low id bx' (hold id bx' hid hb) hl

/-- A box is written, or grows. -/
theorem Inv.upd {B w0 σ H w w'} (h : Inv B w0 σ H w) {id : Nat} {bx : Box} {L : Loc} (hb : H[id]? = some bx) (hl : bx.live = true) (hL : σ.box id = some L)
    (hg : w.grownBy w' L.v.ownBlock) (bx' : Box) (hlive : bx'.live = true) (L' : Loc) (hesz : L'.esz = L.esz) (htot : L' = L ∨ L.tot < L'.tot) (hfl : bx'.floor = bx.floor) (hlen' : bx.xs.length ≤ bx'.xs.length)
    (hnew : ∀ g, L'.v.ownBlock = some g → L.v.ownBlock = some g ∨ w.heap.size ≤ g)
    (hkeep : ∀ g c, L.v.ownBlock = some g → c < bx.floor * L.esz → w'.cell? ⟨g, c, none⟩ = w.cell? ⟨g, c, none⟩)
    (hok : Ext σ w (σ.put id L') w' → BoxOK (σ.put id L') w' B bx' L') :
    Inv B w0 (σ.put id L') (H.set id bx') w' ∧ Ext σ w (σ.put id L') w' := by
  have hlen : id < H.length := h.dom_lt hL
  obtain ⟨L0, hL0, hok0⟩ := h.boxes id bx hb hl
  rw [hL] at hL0
  cases hL0
  have hcell : ∀ b c, σ.fz b c → w'.cell? ⟨b, c, none⟩ = w.cell? ⟨b, c, none⟩ := by
    intro b c hc
    obtain ⟨u, hu⟩ := h.cells b c hc
    by_cases hown : L.v.ownBlock = some b
    · exact hkeep b c hown (h.floor b c hc id bx L hb hl hL hown)
    · exact World.cell?_of_block (hg.block b (cell_lt hu) (fun hh => hown hh.symm))
  have e : Ext σ w (σ.put id L') w' := by
    refine ⟨fun i Li hLi => ?_, fun b c hc => ⟨hc, hcell b c hc⟩⟩
    by_cases hi : i = id
    · subst hi
      rw [hL] at hLi
      cases hLi
      exact ⟨L', by simp [Sg.put], hesz, htot⟩
    · exact ⟨Li, by simp [Sg.put, hi, hLi], rfl, .inl rfl⟩
  have hold : ∀ i b, i ≠ id → (H.set id bx')[i]? = some b → H[i]? = some b := by
    intro i b hi hh
    rw [List.getElem?_set_ne (fun e => hi e.symm)] at hh
    exact hh
  have hget : (H.set id bx')[id]? = some bx' := by simp [hlen]
  refine ⟨⟨?_, Nat.le_trans h.size hg.size, ?_, ?_, ?_, ?_, ?_, ?_, h.old⟩, e⟩
  · exact h.below.grown hg h.size (fun k hk => (hok0.block_lt hk).1)
  · intro i Li hLi
    by_cases hi : i = id
    · subst hi; exact ⟨bx', hget, hlive⟩
    · simp only [Sg.put, hi, if_false] at hLi
      obtain ⟨b1, c1, c2⟩ := h.dom i Li hLi
      exact ⟨b1, by rw [List.getElem?_set_ne (fun e => hi e.symm)]; exact c1, c2⟩
  · intro i b hib hlb
    by_cases hi : i = id
    · subst hi
      rw [hget] at hib
      cases hib
      exact ⟨L', by simp [Sg.put], hok e⟩
    · have hib' := hold i b hi hib
      obtain ⟨Li, hLi, hoki⟩ := h.boxes i b hib' hlb
      refine ⟨Li, by simp [Sg.put, hi, hLi], hoki.kept e hg ?_⟩
      cases hLb : Li.v.ownBlock with
      | none => exact .inl rfl
      | some g =>
        right
        intro hh
        exact hi (h.apart i id b bx Li L g hib' hb hlb hl hLi hL hLb hh.symm)
  · intro i j b1 b2 L1 L2 g h1 h2 l1 l2 s1 s2 g1 g2
    by_cases hi : i = id
    · by_cases hj : j = id
      · rw [hi, hj]
      · exfalso
        subst hi
        simp only [Sg.put, if_true] at s1
        cases s1
        simp only [Sg.put, hj, if_false] at s2
        have h2' := hold j b2 hj h2
        obtain ⟨L3, hL3, hok3⟩ := h.boxes j b2 h2' l2
        rw [s2] at hL3
        cases hL3
        rcases hnew g g1 with hh | hh
        · exact hj (h.apart j i b2 bx L2 L g h2' hb l2 hl s2 hL g2 hh)
        · have := (hok3.block_lt g2).2; omega
    · by_cases hj : j = id
      · exfalso
        subst hj
        simp only [Sg.put, if_true] at s2
        cases s2
        simp only [Sg.put, hi, if_false] at s1
        have h1' := hold i b1 hi h1
        obtain ⟨L3, hL3, hok3⟩ := h.boxes i b1 h1' l1
        rw [s1] at hL3
        cases hL3
        rcases hnew g g2 with hh | hh
        · exact hi (h.apart i j b1 bx L1 L g h1' hb l1 hl s1 hL g1 hh)
        · have := (hok3.block_lt g1).2; omega
      · simp only [Sg.put, hi, hj, if_false] at s1 s2
        exact h.apart i j b1 b2 L1 L2 g (hold i b1 hi h1) (hold j b2 hj h2) l1 l2 s1 s2 g1 g2
  · intro b c hc
    obtain ⟨u, hu⟩ := h.cells b c hc
    exact ⟨u, (hcell b c hc).trans hu⟩
  · intro b c hc i b' Li hib hlb hLi hgi
    by_cases hi : i = id
    · subst hi
      rw [hget] at hib
      cases hib
      simp only [Sg.put, if_true] at hLi
      cases hLi
      rw [hfl, hesz]
      rcases hnew b hgi with hh | hh
      · exact h.floor b c hc i bx L hb hl hL hh
      · obtain ⟨u, hu⟩ := h.cells b c hc
        have := cell_lt hu
        omega
    · simp only [Sg.put, hi, if_false] at hLi
      exact h.floor b c hc i b' Li (hold i b' hi hib) hlb hLi hgi
  · intro i b' hib hlb
    by_cases hi : i = id
    · subst hi
      rw [hget] at hib
      cases hib
      rw [hfl]
      exact Nat.le_trans (h.low i bx hb hl) hlen'
    · exact h.low i b' (hold i b' hi hib) hlb

end Go.Proofs.Ytcjccaonfgcakaa.Le
