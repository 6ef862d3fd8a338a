/-
  An evaluator for the model's code over pure values: struct, array and slice literals.
-/
import Derived.Test.YtcjccaonfgcakaaLe9
import Derived.Great.BuildSlice
namespace Go.Proofs.Ytcjccaonfgcakaa.Le
set_option linter.unusedVariables false
open Go.RowKit (Below)

theorem tyOf_struct {d : TypeDesc} {fs : List (Nat × Nat)} (h : Ty.struct fs = tyOf d) : ∃ fields, d = .struct fields ∧ fs = fields.toList.map fun f => (f.offset, f.type) := by
  cases d <;> simp [tyOf] at h
  exact ⟨_, rfl, h⟩
theorem tyOf_array {d : TypeDesc} {n e : Nat} (h : Ty.array n e = tyOf d) : d = .array n e := by
  cases d <;> simp [tyOf] at h
  rw [h.1, h.2]

theorem places_mapM {E : Env} {P : Program} (hE : EnvOK E) (hP : E.P = P) : ∀ (fields : List Field), (∀ f ∈ fields, (E.ti f.type).isSome = true) →
    ∃ places : List (Nat × Nat), fields.mapM (fun f => (P.info? f.type).map fun i => (f.offset, i.size)) = some places ∧ places.length = fields.length ∧
      ∀ i : Nat, places[i]? = placesOf E (fields.map fun f => (f.offset, f.type)) i
  | [], _ => ⟨[], rfl, rfl, fun i => by simp [placesOf]⟩
  | f :: fields, h => by
    obtain ⟨places, h1, h2, h3⟩ := places_mapM hE hP fields (fun g hg => h g (by simp [hg]))
    have hf := h f (by simp)
    cases hti : E.ti f.type with
    | none => simp [hti] at hf
    | some ti =>
      obtain ⟨inf, d, hi, hd, q1, q2, q3, q4⟩ := tiOf_some (hE.ti _ _ hti)
      rw [hP] at hi
      refine ⟨(f.offset, inf.size) :: places, ?_, by simp [h2], ?_⟩
      · simp [List.mapM_cons, hi, h1]
      · intro i
        cases i with
        | zero => simp [placesOf, hti, q2]
        | succ i => simpa [placesOf] using h3 i

theorem build_ok {E : Env} {σ w} {P : Program} (hE : EnvOK E) (hP : E.P = P) {t : TypeId} {parts : List (Nat × V)} {vparts : Array (Nat × Value)} {x : V} (hp : Parts σ w parts vparts.toList) (hb : buildD E t parts = some x) :
    ∃ u, (Instr.build t vparts).run P w = .ok u w ∧ Reps σ w [x] [u] := by
  unfold buildD at hb
  split at hb
  · rename_i i hti
    obtain ⟨inf, d, hi, hd, q1, q2, q3, q4⟩ := tiOf_some (hE.ti _ _ hti)
    rw [hP] at hi hd
    split at hb
    · rename_i z hz
      split at hb
      · rename_i hzo
        rw [hz] at q4
        cases hzz : inf.zero with
        | none => simp [hzz] at q4
        | some zv =>
          simp only [hzz, Option.map_some, Option.some.injEq] at q4
          have hzr : Reps σ w [z] [zv] := by rw [q4]; exact ofConst_reps σ w zv
          obtain ⟨hcr, hco⟩ := hzr.cells hzo
          split at hb
          · rename_i fs hfs
            obtain ⟨fields, hdf, hfl⟩ := tyOf_struct (hfs.symm.trans q1)
            split at hb
            · rename_i hall
              cases hf : fillV z.cells parts (placesOf E fs) with
              | none => simp [hf] at hb
              | some cs =>
                simp only [hf, Option.map_some, Option.some.injEq] at hb
                subst hb
                obtain ⟨places, m1, m2, m3⟩ := places_mapM hE hP fields.toList (by
                  intro f hf
                  have := List.all_eq_true.1 hall (f.offset, f.type) (by rw [hfl]; exact List.mem_map.2 ⟨f, hf, rfl⟩)
                  exact this)
                have hpl : (fun i : Nat => places.toArray[i]?) = placesOf E fs := by
                  funext i
                  rw [hfl, ← m3 i]
                  simp
                obtain ⟨ws, f1, f2, f3⟩ := fill_reps hp hcr hco hf
                refine ⟨.agg ws.toArray, run_build w t vparts ws.toArray ?_, .agg f2 f3 .nil⟩
                simp only [Program.built, hi, hd, hdf, hzz, m1]
                rw [hpl]
                simpa using f1
            · cases hb
          · rename_i n e hfs
            have hdf := tyOf_array (hfs.symm.trans q1)
            split at hb
            · rename_i ei hei
              obtain ⟨infe, de, hie, hde, e1, e2, e3, e4⟩ := tiOf_some (hE.ti _ _ hei)
              rw [hP] at hie
              cases hf : fillV z.cells parts (fun i => some (i * ei.size, ei.size)) with
              | none => simp [hf] at hb
              | some cs =>
                simp only [hf, Option.map_some, Option.some.injEq] at hb
                subst hb
                obtain ⟨ws, f1, f2, f3⟩ := fill_reps hp hcr hco hf
                refine ⟨.agg ws.toArray, run_build w t vparts ws.toArray ?_, .agg f2 f3 .nil⟩
                simp only [Program.built, hi, hd, hdf, hzz, hie, ← e2]
                simpa using f1
            · cases hb
          · cases hb
      · cases hb
    · cases hb
  · cases hb

/-! ### slice literals -/

theorem fillE_reps {σ w} {sz : Nat} : ∀ {parts : List (Nat × V)} {vparts : List (Nat × Value)} {xs xs' : List V} {us : List Value}, Parts σ w parts vparts → Reps σ w xs us → (∀ x ∈ xs, okV x = true) → (∀ u ∈ us, u.cells.size = sz) → (∀ u ∈ flat us, u.oneCell' = true) →
    fillE xs sz parts = some xs' → ∃ us', Instr.fill (fun i => some (i * sz, sz)) (flat us).toArray vparts = some (flat us').toArray ∧ Reps σ w xs' us' ∧ (∀ x ∈ xs', okV x = true) ∧ (∀ u ∈ us', u.cells.size = sz) ∧ (∀ u ∈ flat us', u.oneCell' = true) ∧ xs'.length = xs.length := by
  intro parts
  induction parts with
  | nil =>
    intro vparts xs xs' us hp hr hk hs ho hf
    cases hp
    simp only [fillE, Option.some.injEq] at hf
    subst hf
    exact ⟨us, rfl, hr, hk, hs, ho, rfl⟩
  | cons p parts ih =>
    intro vparts xs xs' us hp hr hk hs ho hf
    cases hp with
    | cons hx hp =>
      rename_i i x v vs
      simp only [fillE] at hf
      split at hf
      · rename_i hc
        simp only [Bool.and_eq_true, beq_iff_eq, decide_eq_true_eq] at hc
        obtain ⟨⟨c1, c2⟩, c3⟩ := hc
        obtain ⟨hcr, hco⟩ := hx.cells c3
        have hvs : v.cells.size = sz := by rw [← hx.cells_len c3]; exact c1
        have hlen := hr.length
        have hi : i < us.length := by omega
        have hget : us[i]? = some us[i] := List.getElem?_eq_getElem hi
        have hfs := flat_set hs hget hvs
        have hfl : (flat us).length = us.length * sz := flat_length hs
        have hle : i * sz + sz ≤ us.length * sz := by rw [← Nat.succ_mul]; exact Nat.mul_le_mul_right _ hi
        have hstep := fill_step v (i * sz) (flat us).toArray (by simp only [List.size_toArray, hfl, hvs]; exact hle)
        obtain ⟨us', f1, f2, f3, f4, f5, f6⟩ := ih hp (hr.set i hx) (by
          intro y hy
          rcases List.mem_or_eq_of_mem_set hy with hy | hy
          · exact hk y hy
          · rw [hy]; exact c3) (by
          intro y hy
          rcases List.mem_or_eq_of_mem_set hy with hy | hy
          · exact hs y hy
          · rw [hy]; exact hvs) (by
          intro y hy
          rw [hfs] at hy
          simp only [List.mem_append] at hy
          rcases hy with (hy | hy) | hy
          · exact ho y (List.mem_of_mem_take hy)
          · exact hco y hy
          · exact ho y (List.mem_of_mem_drop hy)) hf
        refine ⟨us', ?_, f2, f3, f4, f5, by rw [f6]; simp⟩
        simp only [Instr.fill, hvs]
        simp only [ne_eq, not_true_eq_false, decide_false, Bool.false_or, List.size_toArray, gt_iff_lt, decide_eq_true_eq]
        rw [if_neg (by rw [hfl]; omega)]
        rw [← f1]
        congr 1
        apply Array.ext'
        rw [hvs] at hstep
        rw [hfs]
        simpa using hstep
      · cases hf

theorem parts_unzip {σ w} : ∀ {parts : List (Nat × V)} {vparts : List (Nat × Value)}, Parts σ w parts vparts → Reps σ w (parts.map (·.2)) (vparts.map (·.2)) ∧ parts.map (·.1) = vparts.map (·.1) := by
  intro parts
  induction parts with
  | nil => intro vparts h; cases h; exact ⟨.nil, rfl⟩
  | cons p parts ih =>
    intro vparts h
    cases h with
    | cons hx hp =>
      obtain ⟨h1, h2⟩ := ih hp
      exact ⟨Reps.cons_iff.2 ⟨hx, h1⟩, by simp [h2]⟩

theorem zip_fst_snd {α β : Type} : ∀ (l : List (α × β)), (l.map (·.1)).zip (l.map (·.2)) = l
  | [] => rfl
  | x :: l => by simp [zip_fst_snd l]

theorem parts_zip {σ w} : ∀ {is : List Nat} {xs : List V} {vs : List Value}, Reps σ w xs vs → is.length = xs.length → Parts σ w (is.zip xs) (is.zip vs) := by
  intro is
  induction is with
  | nil => intro xs vs h hl; exact .nil
  | cons i is ih =>
    intro xs vs h hl
    cases xs with
    | nil => simp at hl
    | cons x xs =>
      obtain ⟨v, vs', rfl, h1, h2⟩ := h.cons_left
      exact .cons h1 (ih h2 (by simpa using hl))

theorem fillE_noRef {sz : Nat} : ∀ {parts : List (Nat × V)} {xs xs' : List V}, (∀ x ∈ xs, noRef x = true) → (∀ p ∈ parts, noRef p.2 = true) → fillE xs sz parts = some xs' → ∀ x ∈ xs', noRef x = true
  | [], xs, xs', hx, hp, hf => by
    simp only [fillE, Option.some.injEq] at hf
    subst hf
    exact hx
  | (i, v) :: rest, xs, xs', hx, hp, hf => by
    simp only [fillE] at hf
    split at hf
    · refine fillE_noRef (fun x hx' => ?_) (fun p hp' => hp p (List.mem_cons_of_mem _ hp')) hf
      rcases List.mem_or_eq_of_mem_set hx' with h | h
      · exact hx x h
      · rw [h]; exact hp (i, v) (by simp)
    · cases hf

theorem buildSlice_ok {E B w0 σ H w} {P : Program} (hE : EnvOK E) (hP : E.P = P) (h : Inv B w0 σ H w) {k : Nat} (hk0 : freeB H k = true) {t : TypeId} {n : Nat} {parts : List (Nat × V)} {vparts : Array (Nat × Value)} {r : V} {H' : Heap}
    (hp : Parts σ w parts vparts.toList) (hb : buildSliceD E k H t n parts = some (r, H')) :
    ∃ u w' σ', (Instr.buildSlice t n vparts).run P w = .ok u w' ∧ Inv B w0 σ' H' w' ∧ Ext σ w σ' w' ∧ Reps σ' w' [r] [u] := by
  unfold buildSliceD at hb
  split at hb
  · rename_i e sz by' z0 hti
    split at hb
    · rename_i ei hei
      split at hb
      · rename_i z vs hz hf
        split at hb
        · rename_i hc
          obtain ⟨c1, c2, c3, c4, c5⟩ := hc
          split at hb
          · rename_i xs hfe
            simp only [Option.some.injEq, Prod.mk.injEq] at hb
            obtain ⟨rfl, rfl⟩ := hb
            obtain ⟨inf, d, hi, hd, q1, q2, q3, q4⟩ := tiOf_some (hE.ti _ _ hti)
            have hd' : P.underlying t = some (.slice e) := by rw [hP] at hd; rw [hd, tyOf_slice q1]
            obtain ⟨infe, zv, hie, hzv, hsz, hbz, _⟩ := zok_some hE hP hei hz σ w
            obtain ⟨hI, hEx⟩ := h.freeze ((parts.map (·.2)).flatMap idsA)
            have hzr : Reps (σ.freeze H ((parts.map (·.2)).flatMap idsA)) w [z] [zv] := by
              obtain ⟨infe', zv', hie', hzv', _, _, hr⟩ := zok_some hE hP hei hz (σ.freeze H ((parts.map (·.2)).flatMap idsA)) w
              rw [hie] at hie'
              cases hie'
              rw [hzv] at hzv'
              cases hzv'
              exact hr
            have hzs : zv.cells.size = ei.size := by rw [← hzr.cells_len c4]; exact c3
            obtain ⟨hu1, hu2⟩ := parts_unzip hp
            have hfr := frzAll_reps h hu1 hf _ (fun i hi => hi)
            have hfr' := retypes_reps (E.rows e) hfr
            have hlen : (parts.map (·.1)).length = (vs.map (retype (E.rows e))).length := by rw [hfr'.length, ← hu1.length]; simp
            have hpz := parts_zip hfr' hlen
            have hvp : (parts.map (·.1)).zip (vparts.toList.map (·.2)) = vparts.toList := by
              rw [hu2]
              exact zip_fst_snd _
            rw [hvp] at hpz
            have hones : ∀ u ∈ flat (List.replicate n zv), u.oneCell' = true := by
              intro u hu
              simp only [flat, List.mem_flatMap] at hu
              obtain ⟨a, ha, hb⟩ := hu
              rw [(List.mem_replicate.1 ha).2] at hb
              exact (hzr.cells c4).2 u hb
            obtain ⟨us', f1, f2, f3, f4, f5, f6⟩ := fillE_reps hpz (Reps.replicate n (retype_reps (E.rows e) hzr)) (fun x hx => by rw [(List.mem_replicate.1 hx).2, retype_ok]; exact c4) (fun u hu => by rw [(List.mem_replicate.1 hu).2]; exact hzs) hones hfe
            have hxl : xs.length = n := by rw [f6]; simp
            have hnm : n ≤ maxLen := by
              have : n ≤ n * ei.size := Nat.le_mul_of_pos_right _ c2
              simp [maxLen]
              omega
            obtain ⟨σ', i1, i2, i3⟩ := newRow_ok (n := n) hI (k := k) (by rw [freeB_bump]; exact hk0) e true f2 (fun _ => fillE_noRef (fun x hx => by rw [(List.mem_replicate.1 hx).2, retype_noRef]; exact zero_noRef hE hei hz) (fun p hp => by
              obtain ⟨q, hq, hq'⟩ := List.mem_map.1 (List.of_mem_zip hp).2
              rw [← hq', retype_noRef]
              exact (noRefs_iff vs).1 (frzAll_noRef h hu1 hf) q hq) hfe) f3 f4 f5 (by rw [hxl]; exact hnm)
            rw [hxl] at i3
            refine ⟨.slice (some ⟨w.heap.size, 0, none⟩) n n, _, σ', ?_, i1, hEx.trans i2, ?_⟩
            · by_cases hn : n = 0
              · subst hn
                have hpn : parts = [] := by simpa using c5
                subst hpn
                cases hp0 : vparts.toList with
                | nil =>
                  have : vparts = #[] := by simpa using hp0
                  subst this
                  have hx : xs = [] := List.eq_nil_of_length_eq_zero hxl
                  subst hx
                  cases f2.nil_left
                  simp [Instr.buildSlice, run_underlying hd', sizeOf, typeInfo, hie, Instr.fill, newRow, flat, Array.range_zero']
                | cons a b => rw [hp0] at hp; cases hp
              · have hpos : ¬ n * infe.size = 0 := by rw [hsz]; exact Nat.mul_ne_zero hn (by omega)
                refine run_buildSlice w t e n vparts (flat us').toArray infe zv hd' hie hzv (by rw [hsz]; omega) hpos ?_
                rw [hsz]
                have hm : (Array.range (n * ei.size)).map (zv.cells[· % zv.cells.size]!) = (flat (List.replicate n zv)).toArray := by
                  apply Array.ext'
                  exact madeCells_flat c2 hzs n
                rw [hm]
                exact f1
            · exact .lsl (L := ⟨.slice (some ⟨w.heap.size, 0, none⟩) n n, n, ei.size⟩) i3 (Nat.le_refl _) (fun _ => ⟨by omega, _, _, _, 0, rfl, by simp [Addr.add], Nat.zero_le _, Nat.le_refl _, fun _ => rfl⟩) ⟨_, _, _, rfl⟩ .nil
          · cases hb
        · cases hb
      · cases hb
    · cases hb
  · cases hb

end Go.Proofs.Ytcjccaonfgcakaa.Le
