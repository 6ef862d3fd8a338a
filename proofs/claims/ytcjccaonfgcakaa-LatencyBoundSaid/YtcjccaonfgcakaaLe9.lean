/-
  An evaluator for the model's code over pure values: make, literals.
-/
import Derived.Test.YtcjccaonfgcakaaLe8
import Derived.Great.FillDense
namespace Go.Proofs.Ytcjccaonfgcakaa.Le
set_option linter.unusedVariables false
open Go.RowKit (Below)

theorem flat_replicate {zv : Value} {s : Nat} (hs : 0 < s) (hz : zv.cells.size = s) (n : Nat) : ∀ k, (flat (List.replicate n zv))[k]? = if k < n * s then zv.cells[k % s]? else none := by
  intro k
  have := Go.Great.flat_get hs (List.replicate n zv) (fun v hv => by rw [(List.mem_replicate.1 hv).2]; exact hz) k
  have h2 : (List.flatMap (fun v : Value => v.cells.toList) (List.replicate n zv))[k]? = (flat (List.replicate n zv))[k]? := rfl
  rw [← h2, this, List.getElem?_replicate]
  by_cases h : k < n * s
  · have : k / s < n := (Nat.div_lt_iff_lt_mul hs).2 h
    rw [if_pos this, if_pos h]
    rfl
  · have : ¬ k / s < n := fun hh => h ((Nat.div_lt_iff_lt_mul hs).1 hh)
    rw [if_neg this, if_neg h]
    rfl

theorem madeCells_flat {zv : Value} {s : Nat} (hs : 0 < s) (hz : zv.cells.size = s) (n : Nat) : (madeCells zv.cells (n * s)).toList = flat (List.replicate n zv) := by
  apply List.ext_getElem?
  intro k
  rw [flat_replicate hs hz]
  by_cases h : k < n * s
  · rw [if_pos h]
    have hm : k % s < zv.cells.size := by rw [hz]; exact Nat.mod_lt _ hs
    simp [madeCells, h, hz]
    rw [getElem!_pos zv.cells (k % s) hm, Array.getElem?_eq_getElem hm]
  · rw [if_neg h]
    simp [madeCells, h]

theorem zok_some {E : Env} {P : Program} (hE : EnvOK E) (hP : E.P = P) {e : TypeId} {ei : TI} (hei : E.ti e = some ei) {z : V} (hz : ei.zero = some z) (σ : Sg) (w : World) :
    ∃ infe zv, P.info? e = some infe ∧ infe.zero = some zv ∧ infe.size = ei.size ∧ infe.bytes = ei.bytes ∧ Reps σ w [z] [zv] := by
  obtain ⟨infe, de, hie, hde, e1, e2, e3, e4⟩ := tiOf_some (hE.ti _ _ hei)
  rw [hP] at hie
  rw [hz] at e4
  cases hzz : infe.zero with
  | none => simp [hzz] at e4
  | some zv =>
    simp only [hzz, Option.map_some, Option.some.injEq] at e4
    exact ⟨infe, zv, hie, hzz, e2.symm, e3.symm, by rw [e4]; exact ofConst_reps σ w zv⟩

theorem ofCell_noRef (v : Value) : noRef (ofCell v) = true := by
  unfold ofCell
  split
  · rfl
  · split <;> rfl

theorem ofConst_noRef (v : Value) : noRef (ofConst v) = true := by
  unfold ofConst
  split
  · split
    · rename_i cs _
      rw [show noRef (.agg (cs.toList.map ofCell)) = noRefs (cs.toList.map ofCell) from rfl, noRefs_iff]
      intro x hx
      obtain ⟨c, _, rfl⟩ := List.mem_map.1 hx
      exact ofCell_noRef c
    · rfl
  · split <;> rfl
  · split
    · exact ofCell_noRef _
    · rfl

theorem zero_noRef {E : Env} (hE : EnvOK E) {e : TypeId} {ei : TI} (hei : E.ti e = some ei) {z : V} (hz : ei.zero = some z) : noRef z = true := by
  obtain ⟨infe, de, hie, hde, e1, e2, e3, e4⟩ := tiOf_some (hE.ti _ _ hei)
  rw [hz] at e4
  cases hzz : infe.zero with
  | none => simp [hzz] at e4
  | some zv =>
    simp only [hzz, Option.map_some, Option.some.injEq] at e4
    rw [e4]
    exact ofConst_noRef zv

theorem make_ok {E B w0 σ H w} {P : Program} (hE : EnvOK E) (hP : E.P = P) (h : Inv B w0 σ H w) {k : Nat} (hk0 : freeB H k = true) {t e : TypeId} {ei : TI} {z : V} {kl kc : IntKind} {n m : Int}
    (ht : P.underlying t = some (.slice e)) (hei : E.ti e = some ei) (hz : ei.zero = some z)
    (h0 : 0 ≤ n) (hnm : n ≤ m) (hby : m.toNat * ei.bytes ≤ lim) (hmx : m ≤ maxLen) (hpos : 0 < ei.size) (hzl : z.cells.length = ei.size) (hzo : okV z = true) (es : List Nat) :
    ∃ v' w' σ', (Instr.makeSlice t (.int kl n) (.int kc m)).run P w = .ok v' w' ∧ Inv B w0 σ' (place H k (newBox true false e ei.size (List.replicate n.toNat (retype es z)))) w' ∧ Ext σ w σ' w' ∧
      Reps σ' w' [.lsl k 0 n.toNat n.toNat] [v'] := by
  obtain ⟨infe, zv, hie, hzv, hsz, hbz, hzr⟩ := zok_some hE hP hei hz σ w
  have hzs : zv.cells.size = ei.size := by rw [← hzr.cells_len hzo]; exact hzl
  have hmm : m ≤ 9223372036854775807 := by have : (maxLen : Int) = 9223372036854775807 := by simp [maxLen]
                                           omega
  have hbb : (infe.bytes : Int) * m ≤ 281474976710656 := by
    have h1 : ((m.toNat * ei.bytes : Nat) : Int) ≤ 140737488355328 := by
      have : m.toNat * ei.bytes ≤ 140737488355328 := by simpa [lim] using hby
      omega
    rw [Int.natCast_mul, Int.toNat_of_nonneg (by omega), Int.mul_comm] at h1
    rw [hbz]
    omega
  have hrun := run_make (P := P) w t e infe zv ht hie hzv kl kc n m h0 hnm hbb hmm
  rw [hsz] at hrun
  have hnn : n.toNat ≤ m.toNat := by omega
  have hrep := Reps.replicate n.toNat (retype_reps es hzr)
  have hsizes : ∀ u ∈ List.replicate n.toNat zv, u.cells.size = ei.size := fun u hu => by rw [(List.mem_replicate.1 hu).2]; exact hzs
  have hones : ∀ u ∈ flat (List.replicate n.toNat zv), u.oneCell' = true := by
    intro u hu
    simp only [flat, List.mem_flatMap] at hu
    obtain ⟨a, ha, hb⟩ := hu
    rw [(List.mem_replicate.1 ha).2] at hb
    exact (hzr.cells hzo).2 u hb
  have hlen : (List.replicate n.toNat (retype es z)).length = n.toNat := by simp
  have hmd := madeCells_flat hpos hzs m.toNat
  have hown : (w.alloc (.cells (madeCells zv.cells (m.toNat * ei.size)) e)).ownsRow B e ei.size (.slice (some ⟨w.heap.size, 0, none⟩) n.toNat m.toNat) (List.replicate n.toNat (retype es z)).length (flat (List.replicate n.toNat zv)) := by
    rw [hlen]
    refine ⟨by rw [flat_length hsizes]; simp, .inr ⟨w.heap.size, m.toNat, _, rfl, h.size, heap_alloc_new w _, hnn, by omega, size_madeCells _ _, ?_⟩⟩
    rw [hmd]
    have : List.replicate n.toNat zv = (List.replicate m.toNat zv).take n.toNat := by rw [List.take_replicate, Nat.min_eq_left hnn]
    rw [this, flat_take (e := ei.size) (fun u hu => by rw [(List.mem_replicate.1 hu).2]; exact hzs)]
  obtain ⟨σ', h1, h2, h3⟩ := push_ok (e := e) (esz := ei.size) h hk0 (w.grownBy_alloc _ none) hrep (fun x hx => by rw [(List.mem_replicate.1 hx).2]; simp [fzV, retype_ok, retype_noRef, hzo, zero_noRef hE hei hz]) hsizes hones hown (by simp [Value.ownBlock]) false (by simp)
  rw [hlen] at h3
  exact ⟨_, _, σ', hrun, h1, h2, h3⟩

/-! ### literals -/

theorem fill_step (v : Value) (off : Nat) (cs : Array Value) (h : off + v.cells.size ≤ cs.size) :
    (v.cells.zipIdx.foldl (fun cs (x : Value × Nat) => cs.setIfInBounds (off + x.2) x.1) cs).toList = cs.toList.take off ++ v.cells.toList ++ cs.toList.drop (off + v.cells.size) := by
  obtain ⟨h1, h2⟩ := Go.Great.foldl_set off v.cells.toList 0 cs
  have he : v.cells.zipIdx.foldl (fun cs (x : Value × Nat) => cs.setIfInBounds (off + x.2) x.1) cs = (v.cells.toList.zipIdx 0).foldl (fun cs (x : Value × Nat) => cs.setIfInBounds (off + x.2) x.1) cs := by
    rw [← Array.foldl_toList]
    simp
  rw [he]
  apply List.ext_getElem?
  intro k
  rw [Array.getElem?_toList, h2 k]
  simp only [Nat.add_zero, Array.length_toList]
  by_cases hk1 : k < off
  · rw [if_neg (by omega), List.append_assoc, List.getElem?_append_left (by simp; omega), List.getElem?_take, if_pos hk1, Array.getElem?_toList]
  · by_cases hk2 : k < off + v.cells.size
    · rw [if_pos ⟨by omega, hk2, by omega⟩, List.append_assoc, List.getElem?_append_right (by simp; omega), List.getElem?_append_left (by simp; omega)]
      congr 1
      simp
      omega
    · rw [if_neg (by omega), List.append_assoc, List.getElem?_append_right (by simp; omega), List.getElem?_append_right (by simp; omega), List.getElem?_drop, Array.getElem?_toList]
      congr 1
      simp
      omega

/-- The parts of a literal, as values. -/
inductive Parts (σ : Sg) (w : World) : List (Nat × V) → List (Nat × Value) → Prop where
  | nil : Parts σ w [] []
  | cons {i x v xs vs} : Reps σ w [x] [v] → Parts σ w xs vs → Parts σ w ((i, x) :: xs) ((i, v) :: vs)

theorem fill_reps {σ w} {place : Nat → Option (Nat × Nat)} : ∀ {parts : List (Nat × V)} {vparts : List (Nat × Value)} {cs cs' : List V} {ws : List Value}, Parts σ w parts vparts → Reps σ w cs ws → (∀ u ∈ ws, u.oneCell' = true) →
    fillV cs parts place = some cs' → ∃ ws', Instr.fill place ws.toArray vparts = some ws'.toArray ∧ Reps σ w cs' ws' ∧ (∀ u ∈ ws', u.oneCell' = true) := by
  intro parts
  induction parts with
  | nil =>
    intro vparts cs cs' ws hp hr ho hf
    cases hp
    simp only [fillV, Option.some.injEq] at hf
    subst hf
    exact ⟨ws, rfl, hr, ho⟩
  | cons p parts ih =>
    intro vparts cs cs' ws hp hr ho hf
    cases hp with
    | cons hx hp =>
      rename_i i x v vs
      simp only [fillV] at hf
      split at hf
      · cases hf
      · rename_i off size hpl
        split at hf
        · rename_i hc
          simp only [Bool.and_eq_true, beq_iff_eq, decide_eq_true_eq] at hc
          obtain ⟨⟨c1, c2⟩, c3⟩ := hc
          obtain ⟨hcr, hco⟩ := hx.cells c3
          have hvs : v.cells.size = size := by rw [← hx.cells_len c3]; exact c1
          have hlen := hr.length
          have hstep := fill_step v off ws.toArray (by simp; omega)
          have hr' : Reps σ w (cs.take off ++ x.cells ++ cs.drop (off + size)) (ws.take off ++ v.cells.toList ++ ws.drop (off + size)) := ((hr.take off).append hcr).append (hr.drop _)
          obtain ⟨ws', f1, f2, f3⟩ := ih hp hr' (by
            intro u hu
            simp only [List.mem_append] at hu
            rcases hu with (hu | hu) | hu
            · exact ho u (List.mem_of_mem_take hu)
            · exact hco u hu
            · exact ho u (List.mem_of_mem_drop hu)) hf
          refine ⟨ws', ?_, f2, f3⟩
          simp only [Instr.fill, hpl, hvs]
          have hcond : (decide (size ≠ size) || decide (off + size > ws.toArray.size)) = false := by simp; omega
          simp only [ne_eq, not_true_eq_false, decide_false, Bool.false_or, List.size_toArray, gt_iff_lt, decide_eq_true_eq]
          rw [if_neg (by omega)]
          rw [← f1]
          congr 1
          apply Array.ext'
          rw [hvs] at hstep
          simpa using hstep
        · cases hf

end Go.Proofs.Ytcjccaonfgcakaa.Le
