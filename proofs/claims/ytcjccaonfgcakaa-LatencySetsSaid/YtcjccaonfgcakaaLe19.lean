/-
  An evaluator for the model's code over pure values: two operations that no edge orders may change places.
-/
import Derived.Test.YtcjccaonfgcakaaLe18
namespace Go.Proofs.Ytcjccaonfgcakaa.Le
set_option linter.unusedVariables false

def bumpB (ids : List Nat) (i : Nat) (b : Box) : Box := if i ∈ ids then { b with floor := b.xs.length } else b

theorem eff_get {ids : List Nat} {nb : Option Box} {k : Nat} {H : Heap} (hk : nb.isSome = true → k < H.length) (i : Nat) :
    (eff ids nb k H)[i]? = match nb with | some b => if i = k then some b else (H[i]?).map (bumpB ids i) | none => (H[i]?).map (bumpB ids i) := by
  cases nb with
  | none => simp only [eff]; rw [bump_get]; rfl
  | some b =>
    have hk' : k < (bump H ids).length := by rw [bump_length]; exact hk rfl
    simp only [eff, place]
    rw [if_pos hk', List.getElem?_set]
    by_cases hi : i = k
    · subst hi; simp [hk']
    · rw [if_neg (fun e => hi e.symm), if_neg hi, bump_get]; rfl

theorem eff_length {ids : List Nat} {nb : Option Box} {k : Nat} {H : Heap} (hk : nb.isSome = true → k < H.length) : (eff ids nb k H).length = H.length := by
  cases nb with
  | none => exact bump_length H ids
  | some b =>
    have hk' : k < (bump H ids).length := by rw [bump_length]; exact hk rfl
    simp only [eff, place]
    rw [if_pos hk', List.length_set, bump_length]

theorem bumpB_comm (ids1 ids2 : List Nat) (i : Nat) (b : Box) : bumpB ids1 i (bumpB ids2 i b) = bumpB ids2 i (bumpB ids1 i b) := by
  unfold bumpB
  by_cases h1 : i ∈ ids1 <;> by_cases h2 : i ∈ ids2 <;> simp [h1, h2]

theorem eff_comm {ids1 ids2 : List Nat} {nb1 nb2 : Option Box} {k1 k2 : Nat} {H : Heap} (h1 : nb1.isSome = true → k1 < H.length ∧ k1 ∉ ids2) (h2 : nb2.isSome = true → k2 < H.length ∧ k2 ∉ ids1)
    (hne : nb1.isSome = true → nb2.isSome = true → k1 ≠ k2) : eff ids1 nb1 k1 (eff ids2 nb2 k2 H) = eff ids2 nb2 k2 (eff ids1 nb1 k1 H) := by
  have l1 := eff_length (ids := ids1) (fun h => (h1 h).1)
  have l2 := eff_length (ids := ids2) (fun h => (h2 h).1)
  apply List.ext_getElem?
  intro i
  rw [eff_get (ids := ids1) (H := eff ids2 nb2 k2 H) (fun h => by rw [l2]; exact (h1 h).1), eff_get (ids := ids2) (H := eff ids1 nb1 k1 H) (fun h => by rw [l1]; exact (h2 h).1), eff_get (ids := ids1) (H := H) (fun h => (h1 h).1), eff_get (ids := ids2) (H := H) (fun h => (h2 h).1)]
  cases nb1 with
  | none =>
    cases nb2 with
    | none =>
      simp only
      cases H[i]? with
      | none => rfl
      | some b => simp only [Option.map_some, bumpB_comm]
    | some b2 =>
      simp only
      by_cases hi : i = k2
      · subst hi
        simp only [if_true, Option.map_some]
        simp [bumpB, (h2 rfl).2]
      · simp only [hi, if_false]
        cases H[i]? with
        | none => rfl
        | some b => simp only [Option.map_some, bumpB_comm]
  | some b1 =>
    cases nb2 with
    | none =>
      simp only
      by_cases hi : i = k1
      · subst hi
        simp only [if_true, Option.map_some]
        simp [bumpB, (h1 rfl).2]
      · simp only [hi, if_false]
        cases H[i]? with
        | none => rfl
        | some b => simp only [Option.map_some, bumpB_comm]
    | some b2 =>
      have hkk := hne rfl rfl
      simp only
      by_cases hi : i = k1
      · subst hi
        rw [if_pos rfl, if_neg hkk, if_pos rfl]
        simp [bumpB, (h1 rfl).2]
      · by_cases hj : i = k2
        · subst hj
          rw [if_neg hi, if_pos rfl, if_pos rfl]
          simp [bumpB, (h2 rfl).2]
        · rw [if_neg hi, if_neg hj, if_neg hj, if_neg hi]
          cases H[i]? with
          | none => rfl
          | some b => simp only [Option.map_some, bumpB_comm]

theorem bumpB_low (ids : List Nat) (i : Nat) (b : Box) : (bumpB ids i b).low = b.low := by
  unfold bumpB
  split <;> rfl

theorem eff_sim {R ids : List Nat} {nb : Option Box} {k : Nat} {H : Heap} (hk : nb.isSome = true → k < H.length ∧ k ∉ R) : SimAt R H (eff ids nb k H) := by
  intro i hi
  rw [eff_get (fun h => (hk h).1)]
  cases nb with
  | none =>
    simp only
    cases H[i]? with
    | none => rfl
    | some b => simp only [Option.map_some, bumpB_low]
  | some b =>
    have : i ≠ k := fun e => (hk rfl).2 (e ▸ hi)
    simp only [this, if_false]
    cases H[i]? with
    | none => rfl
    | some b => simp only [Option.map_some, bumpB_low]

theorem SimAt.symm {R : List Nat} {H H' : Heap} (h : SimAt R H H') : SimAt R H' H := fun i hi => (h i hi).symm

theorem eff_dead {ids : List Nat} {nb : Option Box} {k j : Nat} {H : Heap} (hk : nb.isSome = true → k < H.length ∧ k ≠ j) : (∃ b, (eff ids nb k H)[j]? = some b ∧ b.live = false) ↔ ∃ b, H[j]? = some b ∧ b.live = false := by
  rw [eff_get (fun h => (hk h).1)]
  have hm : (∃ b, (H[j]?).map (bumpB ids j) = some b ∧ b.live = false) ↔ ∃ b, H[j]? = some b ∧ b.live = false := by
    cases H[j]? with
    | none => simp
    | some b =>
      simp only [Option.map_some, Option.some.injEq, exists_eq_left']
      unfold bumpB
      split <;> rfl
  cases nb with
  | none => exact hm
  | some b =>
    have : j ≠ k := fun e => (hk rfl).2 e.symm
    simp only [this, if_false]
    exact hm

section
variable {call : CallF} {E : Env} {ops : Array Oper} {ms : List Nat} {base m : Nat}

def kOf (E : Env) (o : Oper) (base i : Nat) (H : Heap) : Nat := if clsOf E o = .a then base + i else H.length

def seesOK (E : Env) (ms : List Nat) (base m i : Nat) (s : List V) (o : Oper) : Prop := ∀ id ∈ refsO E s o, id < base ∨ base + m ≤ id ∨ (ms.getD i 0).testBit (id - base) = true

theorem stepR_iff {i : Nat} {o : Oper} (ho : ops[i]? = some o) {st st' : St} : stepR call E ops ms base m i st = some st' ↔
    seesOK E ms base m i st.s o ∧ (clsOf E o = .a → ∃ b, st.H[base + i]? = some b ∧ b.live = false) ∧ ∃ v H', actD call E ops (kOf E o base i st.H) o st = some (v, H') ∧ st' = ⟨setSlot st.s o.dst v, H'⟩ := by
  have hst : ∀ k, stepAt call E ops k i st = some st' ↔ ∃ v H', actD call E ops k o st = some (v, H') ∧ st' = ⟨setSlot st.s o.dst v, H'⟩ := by
    intro k
    unfold stepAt
    simp only [ho]
    cases hact : actD call E ops k o st with
    | none => simp
    | some r =>
      obtain ⟨v, H'⟩ := r
      simp only [Option.some.injEq, Prod.mk.injEq]
      exact ⟨fun h => ⟨v, H', ⟨rfl, rfl⟩, h.symm⟩, fun ⟨v1, H1, ⟨e1, e2⟩, e3⟩ => by subst e1; subst e2; exact e3.symm⟩
  unfold stepR
  simp only [ho]
  have hsee : ((refsO E st.s o).all fun id => decide (id < base) || decide (base + m ≤ id) || (ms.getD i 0).testBit (id - base)) = true ↔ seesOK E ms base m i st.s o := by
    unfold seesOK
    rw [List.all_eq_true]
    simp only [Bool.or_eq_true, decide_eq_true_eq, or_assoc]
  by_cases hs : seesOK E ms base m i st.s o
  · rw [if_pos (hsee.2 hs)]
    unfold kOf
    by_cases hca : clsOf E o = .a
    · rw [if_pos hca, if_pos hca]
      cases hb : st.H[base + i]? with
      | none => simp [hca]
      | some b =>
        cases hl : b.live with
        | true => simp [hl, hca]
        | false => simp [hl, hs, hst]
    · rw [if_neg hca, if_neg hca, hst]
      simp [hs, hca]
  · rw [if_neg (fun h => hs (hsee.1 h))]
    simp [hs]

theorem actD_s {k : Nat} {o : Oper} {s : List V} {H H1 : Heap} {v : V} (hc : clsOf E o = .s) (h : actD call E ops k o ⟨s, H⟩ = some (v, H1)) : H1 = H ∧ ∀ H' k', actD call E ops k' o ⟨s, H'⟩ = some (v, H') := by
  unfold actD at *
  cases hg : o.guard with
  | none => simp only [hg] at h ⊢; exact opD_s hc h
  | some jw =>
    obtain ⟨j, want⟩ := jw
    simp only [hg] at h ⊢
    cases hd : (ops[j]?).bind (·.dst) with
    | none => simp [hd] at h
    | some d =>
      simp only [hd] at h ⊢
      cases hgd : guardD (s.getD d .und) want with
      | none => rw [hgd] at h; cases h
      | some r =>
        rw [hgd] at h
        cases r with
        | true => simp only at h ⊢; exact opD_s hc h
        | false =>
          simp only [Option.some.injEq, Prod.mk.injEq] at h ⊢
          exact ⟨h.2.symm, fun H' k' => ⟨h.1, trivial⟩⟩

theorem actD_eff (hpure : PureOK E call) {k : Nat} {o : Oper} {s : List V} {H H1 : Heap} {v : V} (hc : clsOf E o ≠ .w) (h : actD call E ops k o ⟨s, H⟩ = some (v, H1)) :
    ∃ ids nb, (∀ i ∈ ids, i ∈ refsO E s o) ∧ (nb.isSome = true → clsOf E o = .a) ∧ H1 = eff ids nb k H ∧
      ∀ H' k', (clsOf E o = .a → k' = k) → SimAt (refsO E s o) H H' → actD call E ops k' o ⟨s, H'⟩ = some (v, eff ids nb k' H') := by
  unfold actD at *
  cases hg : o.guard with
  | none => simp only [hg] at h ⊢; exact opD_eff hpure hc h
  | some jw =>
    obtain ⟨j, want⟩ := jw
    simp only [hg] at h ⊢
    cases hd : (ops[j]?).bind (·.dst) with
    | none => simp [hd] at h
    | some d =>
      simp only [hd] at h ⊢
      cases hgd : guardD (s.getD d .und) want with
      | none => rw [hgd] at h; cases h
      | some r =>
        rw [hgd] at h
        cases r with
        | true => simp only at h ⊢; exact opD_eff hpure hc h
        | false =>
          simp only [Option.some.injEq, Prod.mk.injEq] at h ⊢
          exact ⟨[], none, by simp, by simp, h.2.symm, fun H' k' _ _ => ⟨h.1, rfl⟩⟩

theorem setSlot_comm {s : List V} {d e : Option Tmp} {v u : V} (h : ∀ x, d = some x → e ≠ some x) : setSlot (setSlot s d v) e u = setSlot (setSlot s e u) d v := by
  cases d with
  | none => rfl
  | some d =>
    cases e with
    | none => rfl
    | some e =>
      have : d ≠ e := fun hh => h d rfl (by rw [hh])
      simp only [setSlot]
      exact List.set_comm v u this

/-- **Two operations change places.** -/
theorem stepR_swap (hpure : PureOK E call) (hm : ∀ i o, ops[i]? = some o → clsOf E o = .a → i < m) {x y : Nat} {ox oy : Oper} (hx : ops[x]? = some ox) (hy : ops[y]? = some oy) (hxy : x ≠ y)
    (hpass : mayPass E ops ox oy = true) (hbit : (ms.getD y 0).testBit x = false) (hbit' : (ms.getD x 0).testBit y = false) {st st1 st2 : St}
    (h1 : stepR call E ops ms base m x st = some st1) (h2 : stepR call E ops ms base m y st1 = some st2) :
    ∃ st1', stepR call E ops ms base m y st = some st1' ∧ stepR call E ops ms base m x st1' = some st2 := by
  unfold mayPass at hpass
  simp only [Bool.and_eq_true] at hpass
  obtain ⟨hcomp, hap⟩ := hpass
  obtain ⟨a1, a2, a3⟩ := Oper.apart_spec hap
  obtain ⟨s1, d1, vx, Hx, e1, rfl⟩ := (stepR_iff hx).1 h1
  obtain ⟨s2, d2, vy, Hy, e2, rfl⟩ := (stepR_iff hy).1 h2
  obtain ⟨s, H⟩ := st
  simp only at *
  -- the slots that each looks at are the same in both orders
  rw [actD_set a1] at e2
  have s2' : seesOK E ms base m y s oy := by unfold seesOK at *; rw [refsO_set a1] at s2; exact s2
  have s1' : seesOK E ms base m x (setSlot s oy.dst vy) ox := by unfold seesOK at *; rw [refsO_set a3]; exact s1
  -- places that were kept
  have keptx : clsOf E ox = .a → base + x < H.length := fun hc => by
    obtain ⟨b, hb, _⟩ := d1 hc
    exact (List.getElem?_eq_some_iff.1 hb).1
  have nox : clsOf E ox = .a → base + x ∉ refsO E s oy := fun hc hin => by
    rcases s2' _ hin with h | h | h
    · omega
    · have := hm x ox hx hc; omega
    · rw [show base + x - base = x by omega, hbit] at h; cases h
  have noy : clsOf E oy = .a → base + y ∉ refsO E s ox := fun hc hin => by
    rcases s1 _ hin with h | h | h
    · omega
    · have := hm y oy hy hc; omega
    · rw [show base + y - base = y by omega, hbit'] at h; cases h
  have fin : ∀ (Hy' : Heap), seesOK E ms base m y s oy → (clsOf E oy = .a → ∃ b, H[base + y]? = some b ∧ b.live = false) → actD call E ops (kOf E oy base y H) oy ⟨s, H⟩ = some (vy, Hy') →
      (clsOf E ox = .a → ∃ b, Hy'[base + x]? = some b ∧ b.live = false) → actD call E ops (kOf E ox base x Hy') ox ⟨s, Hy'⟩ = some (vx, Hy) →
      ∃ st1', stepR call E ops ms base m y ⟨s, H⟩ = some st1' ∧ stepR call E ops ms base m x st1' = some ⟨setSlot (setSlot s ox.dst vx) oy.dst vy, Hy⟩ := by
    intro Hy' g1 g2 g3 g4 g5
    refine ⟨⟨setSlot s oy.dst vy, Hy'⟩, (stepR_iff hy).2 ⟨g1, g2, vy, Hy', g3, rfl⟩, (stepR_iff hx).2 ⟨s1', g4, vx, Hy, ?_, ?_⟩⟩
    · rw [actD_set a3]; exact g5
    · rw [setSlot_comm a2]
  by_cases hcx : clsOf E ox = .s
  · obtain ⟨f1, f2⟩ := actD_s hcx e1
    subst f1
    refine fin Hy s2' d2 e2 (fun hc => by rw [hcx] at hc; cases hc) (f2 _ _)
  by_cases hcy : clsOf E oy = .s
  · obtain ⟨f1, f2⟩ := actD_s hcy e2
    subst f1
    exact fin H s2' (fun hc => by rw [hcy] at hc; cases hc) (f2 _ _) d1 e1
  have hwx : clsOf E ox ≠ .w := fun hw => by rw [hw] at hcomp; cases hh : clsOf E oy <;> simp_all [compat]
  have hwy : clsOf E oy ≠ .w := fun hw => by rw [hw] at hcomp; cases hh : clsOf E ox <;> simp_all [compat]
  obtain ⟨idx, nbx, x1, x2, rfl, x4⟩ := actD_eff hpure hwx e1
  obtain ⟨idy, nby, y1, y2, rfl, y4⟩ := actD_eff hpure hwy e2
  have kx : nbx.isSome = true → kOf E ox base x H = base + x := fun h => by simp [kOf, x2 h]
  have hxlt : nbx.isSome = true → kOf E ox base x H < H.length := fun h => by rw [kx h]; exact keptx (x2 h)
  have hlen := eff_length (ids := idx) hxlt
  have ky : nby.isSome = true → ∀ H', kOf E oy base y H' = base + y := fun h H' => by simp [kOf, y2 h]
  -- y first
  have simx : SimAt (refsO E s oy) (eff idx nbx (kOf E ox base x H) H) H := (eff_sim (fun h => ⟨hxlt h, by rw [kx h]; exact nox (x2 h)⟩)).symm
  have deady : clsOf E oy = .a → ∃ b, H[base + y]? = some b ∧ b.live = false := fun hc =>
    (eff_dead (fun h => ⟨hxlt h, by rw [kx h]; omega⟩)).1 (d2 hc)
  have hylt : clsOf E oy = .a → base + y < H.length := fun hc => by
    obtain ⟨b, hb, _⟩ := deady hc
    exact (List.getElem?_eq_some_iff.1 hb).1
  have g3 := y4 H (kOf E oy base y H) (fun hc => by simp [kOf, hc]) simx
  have hylt' : nby.isSome = true → kOf E oy base y H < H.length := fun h => by rw [ky h]; exact hylt (y2 h)
  refine fin _ s2' deady g3 (fun hc => (eff_dead (fun h => ⟨hylt' h, by rw [ky h]; omega⟩)).2 (d1 hc)) ?_
  have simy : SimAt (refsO E s ox) H (eff idy nby (kOf E oy base y H) H) := eff_sim (fun h => ⟨hylt' h, by rw [ky h]; exact noy (y2 h)⟩)
  have g5 := x4 _ (kOf E ox base x (eff idy nby (kOf E oy base y H) H)) (fun hc => by simp [kOf, hc]) simy
  rw [g5]
  have hk1 : nbx.isSome = true → kOf E ox base x (eff idy nby (kOf E oy base y H) H) = base + x := fun h => by simp [kOf, x2 h]
  have hkx : eff idx nbx (kOf E ox base x (eff idy nby (kOf E oy base y H) H)) (eff idy nby (kOf E oy base y H) H) = eff idx nbx (kOf E ox base x H) (eff idy nby (kOf E oy base y H) H) := by
    cases nbx with
    | none => rfl
    | some b => rw [hk1 rfl, kx rfl]
  have hky : eff idy nby (kOf E oy base y (eff idx nbx (kOf E ox base x H) H)) (eff idx nbx (kOf E ox base x H) H) = eff idy nby (kOf E oy base y H) (eff idx nbx (kOf E ox base x H) H) := by
    cases nby with
    | none => rfl
    | some b => rw [ky rfl, ky rfl]
  rw [hkx, hky]
  congr 2
  exact eff_comm (fun h => ⟨hxlt h, by rw [kx h]; exact fun hin => nox (x2 h) (y1 _ hin)⟩) (fun h => ⟨hylt' h, by rw [ky h]; exact fun hin => noy (y2 h) (x1 _ hin)⟩) (fun h1 h2 => by rw [kx h1, ky h2]; omega)

end

end Go.Proofs.Ytcjccaonfgcakaa.Le
