/-
  Symbolic values stand for values: slices, calls, operations, regions.
-/
import Derived.Test.YtcjccaonfgcakaaLe26
namespace Go.Proofs.Ytcjccaonfgcakaa.Le
set_option linter.unusedVariables false
set_option linter.unusedSimpArgs false

section
variable {U : Univ}

theorem elemsT_ok {H : SHeap U} {x : SV U.Ty} {e : Nat} {ys : List (U.Ty e)} (h : (elemsT H x e).Runs ys) :
    elemsOf (toH U H) (toV U x) = some (ys.map (U.enc e)) ∧ (eszIs (toH U H) (toV U x) (U.esz e) = true) := by
  have go : ∀ (t : Nat) (xs : List (U.Ty t)), (if h : t = e then Tr.leaf (h ▸ xs) else Tr.fail : Tr U (List (U.Ty e))).Runs ys → ∃ he : t = e, (he ▸ xs : List (U.Ty e)) = ys := by
    intro t xs h
    split at h
    · rename_i he; exact ⟨he, h⟩
    · simp [Tr.Runs] at h
  unfold elemsT at h
  simp only at h
  split at h
  · simp only [Tr.Runs] at h; subst h; exact ⟨rfl, rfl⟩
  · obtain ⟨rfl, rfl⟩ := go _ _ h
    exact ⟨rfl, by simp [toV, eszIs]⟩
  · obtain ⟨rfl, rfl⟩ := go _ _ h
    exact ⟨rfl, by simp [toV, eszIs]⟩
  · obtain ⟨t, xs, fl, h1, h2, h3, h4⟩ := rowAt_runs h
    obtain ⟨rfl, rfl⟩ := go _ _ h3
    subst h2
    refine ⟨?_, by simp [toV, eszIs, h4, toBox]⟩
    simp only [toV, elemsOf, h4]
    simp only [toBox, Nat.zero_add, Nat.le_refl, decide_true, Bool.and_self, if_true, List.drop_zero, Option.some.injEq]
    exact List.take_of_length_le (by simp)
  · obtain ⟨t, xs, fl, h1, h2, h3, h4⟩ := rowAt_runs h
    simp only [Tr.Runs, decide_eq_true_eq] at h3
    obtain ⟨hle, h3⟩ := h3
    obtain ⟨rfl, rfl⟩ := go _ _ h3
    refine ⟨?_, by simp [toV, eszIs, h4, toBox]⟩
    simp only [toV, elemsOf, h4]
    simp [toBox, hle, List.map_take, List.map_drop]
  · simp [Tr.Runs] at h

theorem appendT_ok {E : Env} {k : Nat} {H H' : SHeap U} {t u : TypeId} {s x y : SV U.Ty} (h : (appendT E k H t u s x).Runs (y, H')) :
    appendD E k (toH U H) t u (toV U s) (toV U x) = some (toV U y, toH U H') := by
  unfold appendT at h
  unfold appendD
  split at h
  · rename_i e sz by' z0 hti
    rw [hti]
    simp only
    split at h
    · rename_i ei hei
      simp only [runs_when, runs_andThen] at h
      obtain ⟨⟨rfl, hpos, hz, hes⟩, ys, hys, h⟩ := h
      obtain ⟨e1, e2⟩ := elemsT_ok hys
      rw [hes] at e2
      simp only [hei, beq_self_eq_true, e1]
      rw [if_pos (by simp [hpos, e2, hz])]
      split at h
      · rename_i id n
        obtain ⟨t', xs, fl, h1, h2, h3, h4⟩ := rowAt_runs h
        split at h3
        · rename_i he
          subst he
          simp only [Tr.Runs, Bool.and_eq_true, decide_eq_true_eq, Prod.mk.injEq] at h3
          obtain ⟨⟨l1, l2⟩, rfl, rfl⟩ := h3
          subst h2
          simp only [toV, h4, List.length_map]
          simp only [toBox, hes, beq_self_eq_true, decide_true, Bool.and_self, if_true, l1, l2, Option.some.injEq, Prod.mk.injEq]
          refine ⟨by simp [toV], ?_⟩
          rw [toH_set]
          simp [toBox, hes]
        · simp [Tr.Runs] at h3
      · simp only [Tr.Runs, Bool.and_eq_true, decide_eq_true_eq, Prod.mk.injEq] at h
        obtain ⟨⟨l1, l2⟩, rfl, rfl⟩ := h
        simp only [toV, List.length_map, l1, l2, decide_true, Bool.and_self, if_true, Option.some.injEq, Prod.mk.injEq, true_and]
        rw [toH_place]
        simp [toBox, newBox, hes]
      · rename_i t' xs
        split at h
        · rename_i he
          subst he
          simp only [Tr.Runs, Bool.and_eq_true, decide_eq_true_eq, Prod.mk.injEq] at h
          obtain ⟨⟨l1, l2⟩, h⟩ := h
          simp only [toV, List.length_map, hes, beq_self_eq_true, l1, l2, decide_true, Bool.and_self, if_true]
          rcases h with ⟨hem, rfl, rfl⟩ | ⟨hem, rfl, rfl⟩
          · simp [hem, toV, hes]
          · simp only [List.isEmpty_map, hem, Bool.false_eq_true, if_false, Option.some.injEq, Prod.mk.injEq]
            refine ⟨by simp [toV], ?_⟩
            rw [toH_place]
            simp [toBox, newBox, hes]
        · simp [Tr.Runs] at h
      · simp [Tr.Runs] at h
    · simp [Tr.Runs] at h
  · simp [Tr.Runs] at h

theorem lenAt_ok {L : Type} {H : SHeap U} {x : SV U.Ty} {k : Nat → Tr U L} {y : L} (h : (lenAt H x k).Runs y) : ∃ n, lenOf (toH U H) (toV U x) = some n ∧ (k n).Runs y := by
  unfold lenAt at h
  split at h
  · rename_i id n
    obtain ⟨t, xs, fl, h1, h2, h3, h4⟩ := rowAt_runs h
    exact ⟨n, by simp [toV, lenOf, h4], h3⟩
  · rename_i id off len tot
    obtain ⟨t, xs, fl, h1, h2, h3, h4⟩ := rowAt_runs h
    exact ⟨len, by simp [toV, lenOf, h4], h3⟩
  · split at h
    · rename_i n hn
      refine ⟨n, ?_, h⟩
      unfold lenT at hn
      split at hn <;> simp_all [toV, lenOf]
    · simp [Tr.Runs] at h

theorem lenAt_raw {L : Type} {H : SHeap U} {x : SV U.Ty} {k : Nat → Tr U L} {y : L} (h : (lenAt H x k).Runs y) : ∀ v, x ≠ .raw v := by
  rintro v rfl
  simp [lenAt, lenT, Tr.Runs] at h

theorem str_no {x : SV U.Ty} (hx : ∀ v, x ≠ .raw v) (h : isStrS x = false) : ∀ s, toV U x ≠ .lit (.string s) := by
  intro s hs
  unfold isStrS at h
  cases x with
  | raw v => exact hx v rfl
  | lit v => simp only [toV, V.lit.injEq] at hs; subst hs; simp [asStr] at h
  | ss b => simp [asStr] at h
  | _ => simp [toV] at hs

theorem str_yes {x : SV U.Ty} (h : isStrS x = true) : ∃ s, asStr x = some s ∧ toV U x = .lit (.string s) := by
  unfold isStrS at h
  cases hs : asStr x with
  | none => simp [hs] at h
  | some s => exact ⟨s, rfl, asStr_toV hs⟩

theorem lenFits_ok {E : Env} {t : TypeId} {x : SV U.Ty} (hx : ∀ v, x ≠ .raw v) : lenFits E t (toV U x) = lenFitsS E t x := by
  unfold lenFits lenFitsS
  by_cases hs : isStrS x = true
  · obtain ⟨s, _, h⟩ := str_yes hs
    rw [h, if_pos hs]
  · rw [if_neg hs]
    have := str_no hx (by simpa using hs)
    split
    · rename_i s h; exact absurd h (this s)
    · rfl

theorem eszIsS_ok {E : Env} {H : SHeap U} {x : SV U.Ty} {n : Nat} {L : Type} {k : Nat → Tr U L} {y : L} (hl : (lenAt H x k).Runs y) (h : eszIsS E H x n = true) : eszIs (toH U H) (toV U x) n = true := by
  unfold eszIsS at h
  split at h
  · simp [toV, eszIs]
  · simpa [toV, eszIs] using h
  · simpa [toV, eszIs] using h
  · rename_i id m
    unfold lenAt at hl
    obtain ⟨t, xs, fl, h1, h2, h3, h4⟩ := rowAt_runs hl
    simp only [h1] at h
    simpa [toV, eszIs, h4, toBox] using h
  · rename_i id off len tot
    unfold lenAt at hl
    obtain ⟨t, xs, fl, h1, h2, h3, h4⟩ := rowAt_runs hl
    simp only [h1] at h
    simpa [toV, eszIs, h4, toBox] using h
  · cases h

theorem sliceFits_ok {E : Env} {H : SHeap U} {t : TypeId} {x : SV U.Ty} {L : Type} {k : Nat → Tr U L} {y : L} (hl : (lenAt H x k).Runs y) (h : sliceFitsS E H t x = true) : sliceFits E (toH U H) t (toV U x) = true := by
  have hx := lenAt_raw hl
  unfold sliceFitsS at h
  unfold sliceFits
  split at h
  · rename_i hs
    obtain ⟨s, _, he⟩ := str_yes hs
    rw [he]
    exact h
  · rename_i hs
    have hno := str_no hx (by simpa using hs)
    split
    · rename_i s he; exact absurd he (hno s)
    · split at h
      · rename_i e _ _ _ hti
        split at h
        · rename_i ei hei
          simp only [hti, hei]
          exact eszIsS_ok hl h
        · cases h
      · cases h

theorem boundT_ok {L : Type} {x : Option (SV U.Ty)} {hi d : Nat} {k : Nat → Tr U L} {y : L} (h : (boundT x hi d k).Runs y) : ∃ n, optBound (x.map (toV U)) hi d = some n ∧ (k n).Runs y := by
  unfold boundT at h
  split at h
  · exact ⟨d, rfl, h⟩
  · rename_i v
    split at h
    · rename_i kk n hn
      simp only [Tr.Runs, decide_eq_true_eq] at h
      refine ⟨n.toNat, ?_, h.2⟩
      simp [optBound, asInt_toV hn, boundD, h.1]
    · simp [Tr.Runs] at h

theorem sliceT_ok {E : Env} {H H' : SHeap U} {t : TypeId} {x y : SV U.Ty} {lo hi mx : Option (SV U.Ty)} (h : (sliceT E H t x lo hi mx).Runs (y, H')) :
    sliceD E (toH U H) t (toV U x) (lo.map (toV U)) (hi.map (toV U)) (mx.map (toV U)) = some (toV U y, toH U H') := by
  unfold sliceT at h
  unfold sliceD
  split at h
  · rename_i hfit
    have hl := h
    have hraw := lenAt_raw hl
    rw [if_pos (sliceFits_ok hl hfit)]
    obtain ⟨n, hn, ha⟩ := lenAt_ok hl
    rw [hn]
    obtain ⟨hh, eh, hb⟩ := boundT_ok ha
    obtain ⟨l, el, hc⟩ := boundT_ok hb
    simp only [eh, el]
    clear h ha hb
    revert hc
    intro h
    split at h
    · rename_i m
      split at h
      · simp [Tr.Runs] at h
      · rename_i xh
        obtain ⟨kk, ek, hd⟩ := boundT_ok h
        clear h
        revert hd
        intro h
        simp only [Tr.Runs, beq_iff_eq] at h
        obtain ⟨rfl, h⟩ := h
        simp only [Option.map_some, optBound] at ek
        simp only [Option.map_some, ek]
        split at h
        · rename_i e xs
          simp only [Tr.Runs, Prod.mk.injEq] at h
          obtain ⟨rfl, rfl⟩ := h
          simp [toV, elemsOf, List.map_take, List.map_drop]
        · rename_i e xs
          simp only [Tr.Runs, Prod.mk.injEq] at h
          obtain ⟨rfl, rfl⟩ := h
          simp [toV, elemsOf, List.map_take, List.map_drop]
        · rename_i id n'
          obtain ⟨e, xs, fl, h1, h2, h3, h4⟩ := rowAt_runs h
          simp only [Tr.Runs, Prod.mk.injEq] at h3
          obtain ⟨rfl, rfl⟩ := h3
          subst h2
          have hg : (toH U H).getD id default = toBox U (.row e xs fl) := by simp [List.getD, toH_get, h1]
          have hel : elemsOf (toH U H) (.lsl id 0 xs.length xs.length) = some (xs.map (U.enc e)) := by
            simp only [elemsOf, h4]
            simp only [toBox, Nat.zero_add, Nat.le_refl, decide_true, Bool.and_self, if_true, List.drop_zero]
            rw [List.take_of_length_le (by simp)]
          simp only [toV, hel, if_true, hg]
          simp only [toBox, Option.some.injEq, Prod.mk.injEq]
          refine ⟨by simp [List.map_take, List.map_drop], ?_⟩
          rw [bumpS_ok H [id] (by intro i hi; simp at hi; subst hi; exact ⟨_, _, _, h1⟩)]
        · simp [Tr.Runs] at h
    · simp only [Option.map_none]
      split at h
      · simp only [Tr.Runs, Prod.mk.injEq] at h
        obtain ⟨rfl, rfl⟩ := h
        simp [toV]
      · simp only [Tr.Runs, Prod.mk.injEq] at h
        obtain ⟨rfl, rfl⟩ := h
        simp [toV, List.map_take, List.map_drop]
      · simp only [Tr.Runs, Prod.mk.injEq] at h
        obtain ⟨rfl, rfl⟩ := h
        simp [toV, List.map_take, List.map_drop]
      · rename_i id n'
        have hnn : n = n' := by
          unfold lenAt at hl
          obtain ⟨e, xs, fl, h1, h2, h3, h4⟩ := rowAt_runs hl
          simpa [toV, lenOf, h4] using hn.symm
        subst hnn
        split at h
        · simp only [Tr.Runs, Prod.mk.injEq] at h
          obtain ⟨rfl, rfl⟩ := h
          simp only [Option.map_none, optBound, Option.some.injEq] at eh el
          subst eh
          subst el
          simp [toV]
        · simp only [Tr.Runs, Prod.mk.injEq] at h
          obtain ⟨rfl, rfl⟩ := h
          simp [toV]
      · simp only [Tr.Runs, Prod.mk.injEq] at h
        obtain ⟨rfl, rfl⟩ := h
        simp [toV]
      · split at h
        · rename_i s hs
          simp only [Tr.Runs, Prod.mk.injEq] at h
          obtain ⟨rfl, rfl⟩ := h
          simp [asStr_toV hs, toV]
        · simp [Tr.Runs] at h
  · simp [Tr.Runs] at h

/-! ### operations -/

/-- What the functions that are called are said to come to. -/
def MdlOK (U : Univ) (M : Mdl U) (call : CallF) : Prop :=
  ∀ g m as t o r, M g = some m → m as = some ⟨t, o⟩ → o = some r → ∀ args H, frzAll H args = some (toVs U as) → call g args H = some (U.enc t r, bump H (args.flatMap idsA))

theorem retT_ok {H H' : SHeap U} {T : Tr U (SV U.Ty)} {y : SV U.Ty} (h : (retT H T).Runs (y, H')) : T.Runs y ∧ H' = H := by
  simp only [retT, runs_andThen, Tr.Runs, Prod.mk.injEq] at h
  obtain ⟨x, h1, rfl, rfl⟩ := h
  exact ⟨h1, rfl⟩

theorem callT_ok {E : Env} {M : Mdl U} {call : CallF} (hU : UnivOK U E) (hM : MdlOK U M call) {k : Nat} {H H' : SHeap U} {s : List (SV U.Ty)} {c : Call} {o : Oper} {y : SV U.Ty} (hop : o.op = .call c) (h : (callT E M k H s c).Runs (y, H')) :
    opD call E k (toH U H) (toVs U s) o = some (toV U y, toH U H') := by
  unfold opD
  rw [hop]
  simp only
  unfold callT at h
  have hargs : evs E (toVs U s) c.args = toVs U (c.args.toList.map (evS E s)) := evs_toV E s c.args.toList
  split at h
  · rename_i b hb
    rw [hb]
    simp only
    rw [hargs]
    unfold builtinD
    split at h
    · rename_i x t he1 he2
      rw [he1, he2]
      split at h
      · rename_i hf
        have hraw := lenAt_raw h
        obtain ⟨n, hn, h⟩ := lenAt_ok h
        simp only [Tr.Runs, Prod.mk.injEq] at h
        obtain ⟨rfl, rfl⟩ := h
        simp only [toVs, lenFits_ok hraw, hf, if_true, hn, Option.map_some, toV]
        rfl
      · simp [Tr.Runs] at h
    · rename_i a x t u he1 he2
      rw [he1, he2]
      simp only [toVs]
      exact appendT_ok h
    · obtain ⟨h1, rfl⟩ := retT_ok h
      simp only [minmaxT_ok h1, Option.map_some]
    · obtain ⟨h1, rfl⟩ := retT_ok h
      simp only [minmaxT_ok h1, Option.map_some]
    · simp [Tr.Runs] at h
  · rename_i f hf
    rw [hf]
    simp only
    rw [ev_toV]
    split at h
    · rename_i g first caps hg
      rw [hg]
      simp only [toV]
      split at h
      · rename_i m hm
        simp only [runs_andThen] at h
        obtain ⟨as, has, h⟩ := h
        split at h
        · rename_i t oo hmo
          simp only [Tr.Runs, Prod.mk.injEq] at h
          obtain ⟨r, hr, rfl, rfl⟩ := h
          have hall : toVs U first ++ evs E (toVs U s) c.args ++ toVs U caps = toVs U (first ++ c.args.toList.map (evS E s) ++ caps) := by
            rw [hargs]; simp only [toVs_map, List.map_append]
          rw [hall, hM g m as t oo r hm hmo hr _ _ (frzAllS_ok has), idsAs_toV, bumpS_ok H _ (frzAllS_rows has), hU.encS]
        · simp [Tr.Runs] at h
      · simp [Tr.Runs] at h
    · simp [Tr.Runs] at h
  · simp [Tr.Runs] at h

theorem parts_toV {E : Env} {s : List (SV U.Ty)} (ps : List (Nat × Operand)) : (ps.map fun (i, x) => (i, ev E (toVs U s) x)) = partsV (ps.map fun (i, x) => (i, evS E s x)) := by
  simp [partsV, ev_toV]

theorem optEv {E : Env} {s : List (SV U.Ty)} (x : Option Operand) : x.map (ev E (toVs U s)) = (x.map (evS E s)).map (toV U) := by
  cases x <;> simp [ev_toV]

theorem opT_ok {E : Env} {M : Mdl U} {call : CallF} (hU : UnivOK U E) (hM : MdlOK U M call) {k : Nat} {H H' : SHeap U} {s : List (SV U.Ty)} {o : Oper} {y : SV U.Ty} (h : (opT E M k H s o).Runs (y, H')) :
    opD call E k (toH U H) (toVs U s) o = some (toV U y, toH U H') := by
  unfold opT at h
  split at h
  · rename_i x hop
    simp only [Tr.Runs, Prod.mk.injEq] at h
    obtain ⟨rfl, rfl⟩ := h
    unfold opD
    rw [hop]
    simp only [ev_toV]
  · rename_i hop
    unfold opD
    rw [hop]
    simp only
    split at h
    · rename_i e _ _ _ hti
      simp only [runs_when, Tr.Runs, Prod.mk.injEq] at h
      obtain ⟨hes, rfl, rfl⟩ := h
      simp only [hti, toV, toH_place, toBox, newBox, hes]
      rfl
    · simp [Tr.Runs] at h
  · rename_i x hne hop
    simp only [Tr.Runs, Prod.mk.injEq] at h
    obtain ⟨rfl, rfl⟩ := h
    unfold opD
    rw [hop]
    split <;> simp_all [ev_toV]
  · rename_i c a b hop
    unfold opD
    rw [hop]
    simp only [ev_toV]
    split at h
    · rename_i hc
      simp only [Tr.Runs, Prod.mk.injEq] at h
      obtain ⟨rfl, rfl⟩ := h
      rw [hc]
      simp [toV]
    · rename_i hc
      simp only [Tr.Runs, Prod.mk.injEq] at h
      obtain ⟨rfl, rfl⟩ := h
      rw [hc]
      simp [toV]
    · rename_i t hc
      rw [hc]
      simp only [toV]
      split at h
      · rename_i x' y' hx hy
        simp only [Tr.Runs, Prod.mk.injEq] at h
        obtain ⟨rfl, rfl⟩ := h
        rw [asBool_toV hx, asBool_toV hy]
        cases t <;> simp [toV]
      · simp only [Tr.Runs, Prod.mk.injEq] at h
        rcases h with ⟨rfl, rfl, rfl⟩ | ⟨rfl, rfl, rfl⟩ <;> simp
    · simp [Tr.Runs] at h
  · rename_i t hop
    unfold opD
    rw [hop]
    simp only
    split at h
    · rename_i i hi
      simp only [hi]
      split at h
      · rename_i z hz
        simp only [runs_when, Tr.Runs, Prod.mk.injEq] at h
        obtain ⟨hc, rfl, rfl⟩ := h
        simp only [hz, hc, and_self, if_true, toV, toH_place, toBox, toV_ofV]
      · simp [Tr.Runs] at h
    · simp [Tr.Runs] at h
  · rename_i t x hop
    unfold opD
    rw [hop]
    simp only [ev_toV]
    split at h
    · rename_i i hi
      simp only [runs_when, Tr.Runs, Prod.mk.injEq] at h
      obtain ⟨⟨h1, h2⟩, rfl, rfl⟩ := h
      simp only [hi, cells_toV h2, length_toVs, h1, okS_okV h2, and_self, if_true, toV, toH_place, toBox]
    · simp [Tr.Runs] at h
  · rename_i t ps hop
    obtain ⟨h1, rfl⟩ := retT_ok h
    rw [runs_opt] at h1
    unfold opD
    rw [hop]
    simp only [parts_toV, buildT_ok h1, Option.map_some]
  · rename_i t n ps hop
    unfold opD
    rw [hop]
    simp only [parts_toV]
    exact buildSliceT_ok hU h
  · rename_i t a hop
    obtain ⟨h1, rfl⟩ := retT_ok h
    unfold opD
    rw [hop]
    simp only [ev_toV, loadT_ok hU h1, Option.map_some]
  · rename_i t a v hop
    simp only [runs_andThen, Tr.Runs, Prod.mk.injEq] at h
    obtain ⟨H1, h1, rfl, rfl⟩ := h
    unfold opD
    rw [hop]
    simp only [ev_toV, storeT_ok hU h1, Option.map_some]
    rfl
  · rename_i x hop
    unfold opD
    rw [hop]
    simp only [ev_toV]
    split at h
    · rename_i hx
      simp only [Tr.Runs, Prod.mk.injEq] at h
      obtain ⟨rfl, rfl⟩ := h
      simp [hx, toV, isNilV]
    · rename_i hx
      simp only [Tr.Runs, Prod.mk.injEq] at h
      obtain ⟨rfl, rfl⟩ := h
      simp [hx, toV, isNilV]
    · rename_i hx
      simp only [Tr.Runs, Prod.mk.injEq] at h
      obtain ⟨rfl, rfl⟩ := h
      simp [hx, toV, isNilV]
    · simp [Tr.Runs] at h
  · rename_i op t x z _ hop
    obtain ⟨h1, rfl⟩ := retT_ok h
    unfold opD
    rw [hop]
    simp only [ev_toV, binT_ok h1, Option.map_some]
  · rename_i op _ x hop
    obtain ⟨h1, rfl⟩ := retT_ok h
    unfold opD
    rw [hop]
    simp only [ev_toV, unT_ok h1, Option.map_some]
  · rename_i src dst x hop
    obtain ⟨h1, rfl⟩ := retT_ok h
    unfold opD
    rw [hop]
    simp only [ev_toV, convT_ok h1]
  · rename_i t l c hop
    unfold opD
    rw [hop]
    simp only [ev_toV]
    split at h
    · rename_i e _ _ _ hti
      simp only [hti]
      split at h
      · rename_i n _ m _ ei hn hm hei
        obtain ⟨k1, hn'⟩ := okInt_toV hn
        obtain ⟨k2, hm'⟩ := okInt_toV hm
        simp only [hn', hm', hei]
        split at h
        · rename_i z hz
          simp only [hz]
          split at h
          · rename_i y0 hy0
            simp only [runs_when, Tr.Runs, decide_eq_true_eq, Prod.mk.injEq] at h
            obtain ⟨⟨c1, c2, c3, c4⟩, ⟨c5, c6, c7, c8⟩, rfl, rfl⟩ := h
            have hd := hU.dec _ _ _ hy0
            rw [toV_ofV] at hd
            rw [if_pos ⟨c5, c6, c7, c8, c1, c2, c3⟩]
            simp only [toV, toH_place, toBox, newBox, c4, hd, List.map_replicate, List.length_replicate]
            rfl
          · simp [Tr.Runs] at h
        · simp [Tr.Runs] at h
      · simp [Tr.Runs] at h
    · simp [Tr.Runs] at h
  · rename_i t x lo hi mx hop
    unfold opD
    rw [hop]
    simp only [ev_toV, optEv]
    exact sliceT_ok h
  · rename_i t x f hop
    obtain ⟨h1, rfl⟩ := retT_ok h
    rw [runs_opt] at h1
    unfold opD
    rw [hop]
    simp only [ev_toV, fieldAddrT_ok h1, Option.map_some]
  · rename_i t x f hop
    obtain ⟨h1, rfl⟩ := retT_ok h
    rw [runs_opt] at h1
    unfold opD
    rw [hop]
    simp only [ev_toV, fieldT_ok h1, Option.map_some]
  · rename_i t x i hop
    obtain ⟨h1, rfl⟩ := retT_ok h
    unfold opD
    rw [hop]
    simp only [ev_toV, indexAddrT_ok h1, Option.map_some]
  · rename_i t x i hop
    obtain ⟨h1, rfl⟩ := retT_ok h
    unfold opD
    rw [hop]
    simp only [ev_toV, indexT_ok h1, Option.map_some]
  · rename_i x i hop
    unfold opD
    rw [hop]
    simp only [ev_toV]
    split at h
    · rename_i vs hv
      obtain ⟨h1, rfl⟩ := retT_ok h
      rw [runs_opt] at h1
      simp [hv, toV, toVs_map, h1]
    · simp [Tr.Runs] at h
  · rename_i f first caps hop
    simp only [Tr.Runs, Prod.mk.injEq] at h
    obtain ⟨rfl, rfl⟩ := h
    unfold opD
    rw [hop]
    simp only [toV, evs, evs_toV]
  · rename_i c hop
    exact callT_ok hU hM hop h
  · simp [Tr.Runs] at h

/-! ### regions -/

theorem stepT_ok {E : Env} {M : Mdl U} {call : CallF} (hU : UnivOK U E) (hM : MdlOK U M call) {ops : Array Oper} {k i : Nat} {st st' : SSt U} (h : (stepT E M ops k i st).Runs st') :
    stepAt call E ops k i (toSt U st) = some (toSt U st') := by
  unfold stepT at h
  unfold stepAt
  split at h
  · rename_i ho
    simp only [Tr.Runs] at h
    subst h
    rw [ho]
  · rename_i o ho
    rw [ho]
    simp only at h ⊢
    have run : ∀ (q : SSt U), ((opT E M k q.H q.s o).andThen fun r => Tr.leaf (⟨setS q.s o.dst r.1, r.2⟩ : SSt U)).Runs st' → ∃ v H1, opD call E k (toH U q.H) (toVs U q.s) o = some (v, H1) ∧ (⟨setSlot (toVs U q.s) o.dst v, H1⟩ : St) = toSt U st' := by
      intro q hq
      simp only [runs_andThen, Tr.Runs] at hq
      obtain ⟨⟨v, H1⟩, h1, rfl⟩ := hq
      exact ⟨_, _, opT_ok hU hM h1, by simp only [toSt, set_toV]⟩
    have skip : ∀ (q : SSt U), (Tr.leaf (⟨setS q.s o.dst .no, q.H⟩ : SSt U) : Tr U (SSt U)).Runs st' → (⟨setSlot (toVs U q.s) o.dst vundef, toH U q.H⟩ : St) = toSt U st' := by
      intro q hq
      simp only [Tr.Runs] at hq
      subst hq
      simp only [toSt, set_toV]
      rfl
    unfold actD
    cases hg : o.guard with
    | none =>
      simp only [hg] at h
      obtain ⟨v, H1, h1, h2⟩ := run st h
      simp only [toSt, h1]
      rw [h2]
      rfl
    | some jw =>
      obtain ⟨j, want⟩ := jw
      simp only [hg] at h
      split at h
      · simp [Tr.Runs] at h
      · rename_i d hd
        simp only [hd]
        rw [show (toSt U st).s.getD d .und = toV U (st.s.getD d .und) from toVs_getD st.s d]
        have fin : ∀ (b : Bool) (q : SSt U), toSt U q = toSt U st → toV U (st.s.getD d .und) = .lit (.bool b) →
            (if b == want then ((opT E M k q.H q.s o).andThen fun r => Tr.leaf (⟨setS q.s o.dst r.1, r.2⟩ : SSt U)) else (Tr.leaf (⟨setS q.s o.dst .no, q.H⟩ : SSt U) : Tr U (SSt U))).Runs st' →
            (match (match guardD (toV U (st.s.getD d .und)) want with
              | none => none
              | some false => some (vundef, (toSt U st).H)
              | some true => opD call E k (toSt U st).H (toSt U st).s o) with
            | some (v, H) => some (⟨setSlot (toSt U st).s o.dst v, H⟩ : St)
            | none => none) = some (toSt U st') := by
          intro b q hq hv hr
          rw [hv, ← hq]
          simp only [guardD]
          split at hr
          · rename_i hb
            obtain ⟨v, H1, h1, h2⟩ := run q hr
            rw [hb]
            simp only [toSt, h1]
            exact congrArg some h2
          · rename_i hb
            have := skip q hr
            rw [show (b == want) = false by simpa using hb]
            simp only [toSt]
            exact congrArg some this
        split at h
        · rename_i hs
          rw [hs]
          have := skip st h
          simp only [toV, guardD, toSt]
          exact congrArg some this
        · rename_i hs
          refine fin true st rfl (by rw [hs]; rfl) ?_
          cases want <;> exact h
        · rename_i hs
          refine fin false st rfl (by rw [hs]; rfl) ?_
          cases want <;> exact h
        · rename_i b hs
          have hsame : ∀ b', b = b' → toSt U (⟨st.s.set d (.lit (.bool b')), st.H⟩ : SSt U) = toSt U st := by
            rintro b' rfl
            simp only [toSt, St.mk.injEq, and_true]
            rw [toVs_map, toVs_map, List.map_set]
            apply List.ext_getElem?
            intro n
            rw [List.getElem?_set]
            split
            · rename_i hdn
              subst hdn
              split
              · rename_i hlt
                simp only [List.length_map] at hlt
                have : st.s.getD d .und = st.s[d] := by simp [List.getD, hlt]
                rw [this] at hs
                simp [hlt, hs, toV]
              · rename_i hge
                rw [List.getElem?_eq_none (by simpa using hge)]
            · rfl
          simp only [Tr.Runs] at h
          rcases h with ⟨rfl, h⟩ | ⟨rfl, h⟩
          · refine fin true _ (hsame true rfl) (by rw [hs]; rfl) ?_
            cases want <;> exact h
          · refine fin false _ (hsame false rfl) (by rw [hs]; rfl) ?_
            cases want <;> exact h
        · simp [Tr.Runs] at h

theorem opsT_ok {E : Env} {M : Mdl U} {call : CallF} (hU : UnivOK U E) (hM : MdlOK U M call) {ops : Array Oper} : ∀ {is : List Nat} {st st' : SSt U}, (opsT E M ops is st).Runs st' → opsD call E ops is (toSt U st) = some (toSt U st') := by
  intro is
  induction is with
  | nil => intro st st' h; simp only [opsT, Tr.Runs] at h; subst h; rfl
  | cons i is ih =>
    intro st st' h
    simp only [opsT, runs_andThen] at h
    obtain ⟨st1, h1, h2⟩ := h
    have := stepT_ok hU hM h1
    simp only [opsD, stepD]
    rw [show (toSt U st).H.length = st.H.length from toH_length st.H, this]
    exact ih h2

theorem refsO_toV {E : Env} {s : List (SV U.Ty)} {o : Oper} : refsO E (toVs U s) o = refsOS E s o := by
  unfold refsO refsOS
  congr 1
  funext x
  rw [ev_toV, refsV_toV]

theorem stepRT_ok {E : Env} {M : Mdl U} {call : CallF} (hU : UnivOK U E) (hM : MdlOK U M call) {ops : Array Oper} {ms : List Nat} {base m i : Nat} {st st' : SSt U} (h : (stepRT E M ops ms base m i st).Runs st') :
    stepR call E ops ms base m i (toSt U st) = some (toSt U st') := by
  unfold stepRT at h
  unfold stepR
  split at h
  · rename_i ho
    simp only [Tr.Runs] at h
    subst h
    rw [ho]
  · rename_i o ho
    rw [ho]
    simp only [runs_when] at h ⊢
    obtain ⟨h1, h⟩ := h
    rw [show refsO E (toSt U st).s o = refsOS E st.s o from refsO_toV, if_pos h1]
    split at h
    · rename_i hc
      rw [if_pos hc]
      rw [show (toSt U st).H[base + i]? = (st.H[base + i]?).map (toBox U) from toH_get _ _]
      split at h
      · rename_i b hb
        rw [hb]
        split at h
        · rename_i hd
          have : b = .dead := by cases b <;> simp_all [isDead]
          subst this
          simp only [Option.map_some, toBox, deadBox, Bool.false_eq_true, if_false]
          exact stepT_ok hU hM h
        · simp [Tr.Runs] at h
      · simp [Tr.Runs] at h
    · rename_i hc
      rw [if_neg hc]
      rw [show (toSt U st).H.length = st.H.length from toH_length st.H]
      exact stepT_ok hU hM h

theorem stepsRT_ok {E : Env} {M : Mdl U} {call : CallF} (hU : UnivOK U E) (hM : MdlOK U M call) {ops : Array Oper} {ms : List Nat} {base m : Nat} : ∀ {is : List Nat} {st st' : SSt U}, (stepsRT E M ops ms base m is st).Runs st' →
    stepsR call E ops ms base m is (toSt U st) = some (toSt U st') := by
  intro is
  induction is with
  | nil => intro st st' h; simp only [stepsRT, Tr.Runs] at h; subst h; rfl
  | cons i is ih =>
    intro st st' h
    simp only [stepsRT, runs_andThen] at h
    obtain ⟨st1, h1, h2⟩ := h
    simp only [stepsR, stepRT_ok hU hM h1]
    exact ih h2

theorem drawT_ok {E : Env} {M : Mdl U} {call : CallF} (hU : UnivOK U E) (hM : MdlOK U M call) {ops : Array Oper} {st st' : SSt U} (h : (drawT E M ops st).Runs st') : drawD call E ops (toSt U st) = some (toSt U st') := by
  unfold drawT at h
  unfold drawD
  have := stepsRT_ok hU hM h
  rw [show (toSt U st).H.length = st.H.length from toH_length st.H]
  rw [← this]
  congr 1
  simp [toSt, toH, toBox]

end

end Go.Proofs.Ytcjccaonfgcakaa.Le
