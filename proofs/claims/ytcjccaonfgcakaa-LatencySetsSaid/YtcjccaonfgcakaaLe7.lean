/-
  An evaluator for the model's code over pure values: writing memory, new variables.
-/
import Derived.Test.YtcjccaonfgcakaaLe6
namespace Go.Proofs.Ytcjccaonfgcakaa.Le
set_option linter.unusedVariables false
open Go.RowKit (Below)

theorem splice_list {α : Type} (A U C R vals : List α) (off k : Nat) (hk : vals.length = k) (hU : off + k ≤ U.length) :
    (A ++ U ++ C ++ R).take (A.length + off) ++ vals ++ (A ++ U ++ C ++ R).drop (A.length + off + k) = A ++ (U.take off ++ vals ++ U.drop (off + k)) ++ C ++ R := by
  have h1 : (A ++ U ++ C ++ R).take (A.length + off) = A ++ U.take off := by
    rw [List.append_assoc, List.append_assoc, List.take_append, List.take_of_length_le (by omega)]
    congr 1
    rw [show A.length + off - A.length = off from by omega, List.take_append]
    rw [show off - U.length = 0 from by omega]
    simp
  have h2 : (A ++ U ++ C ++ R).drop (A.length + off + k) = U.drop (off + k) ++ C ++ R := by
    rw [List.append_assoc, List.append_assoc, List.drop_append, List.drop_eq_nil_of_le (by omega), List.nil_append]
    rw [show A.length + off + k - A.length = off + k from by omega, List.drop_append]
    rw [show off + k - U.length = 0 from by omega]
    simp
  rw [h1, h2]
  simp [List.append_assoc]

/-- The value of an element with some of its cells replaced. -/
theorem splice_reps {σ w} {x x' : V} {uu : Value} {cs : List V} {vals : List Value} {off : Nat} (hx : Reps σ w [x] [uu]) (hok : okV x = true) (hc : Reps σ w cs vals) (ho : ∀ u ∈ vals, u.oneCell' = true)
    (h : spliceV x off cs = some x') :
    off + vals.length ≤ uu.cells.size ∧ ∃ uu', Reps σ w [x'] [uu'] ∧ uu'.cells.toList = uu.cells.toList.take off ++ vals ++ uu.cells.toList.drop (off + vals.length) := by
  unfold spliceV at h
  split at h
  · rename_i ds
    split at h
    · rename_i hle
      simp only [Option.some.injEq] at h
      subst h
      cases hx with
      | agg h1 h2 h3 =>
        rename_i ws
        have hlen := h1.length
        have hcl := hc.length
        refine ⟨by simp [Value.cells]; omega, .agg (ws.take off ++ vals ++ ws.drop (off + vals.length)).toArray, ?_, by simp [Value.cells]⟩
        rw [hcl]
        refine .agg ((h1.take off).append hc |>.append (h1.drop _)) ?_ .nil
        intro u hu
        simp only [List.mem_append] at hu
        rcases hu with (hu | hu) | hu
        · exact h2 u (List.mem_of_mem_take hu)
        · exact ho u hu
        · exact h2 u (List.mem_of_mem_drop hu)
    · cases h
  · rename_i hna
    split at h
    · rename_i c
      simp only [Option.some.injEq] at h
      subst h
      obtain ⟨v, vs', rfl, h1, h2⟩ := hc.cons_left
      cases h2.nil_left
      have hone : uu.cells.size = 1 := by
        have := hx.cells_len hok
        cases x <;> simp_all [V.cells]
      have hvone : v.cells = #[v] := by
        have := ho v (by simp)
        cases v <;> simp_all [Value.cells, Value.oneCell']
      refine ⟨by simp [hone], v, h1, ?_⟩
      rw [hvone]
      have : uu.cells.toList.drop (0 + [v].length) = [] := by apply List.drop_eq_nil_of_le; simp [hone]
      rw [this]
      simp
    · cases h


/-- A part of an element of a box is written. -/
theorem write_ok {B w0 σ H w} {P : Program} (h : Inv B w0 σ H w) {id : Nat} {b : Box} {L : Loc} {us : List Value} (m : Met B w0 σ H w id b L us) {g n c : Nat} (hv : L.v = .slice (some ⟨g, 0, none⟩) n c)
    {j off : Nat} {x x' x'' : V} {cs : List V} {vals : List Value} (hx : b.xs[j]? = some x) (hc : Reps σ w cs vals) (ho : ∀ u ∈ vals, u.oneCell' = true) (hs : spliceV x off cs = some x') (hxx : ∀ σ w v, Reps σ w [x'] [v] → Reps σ w [x''] [v]) (hok : okV x'' = true) (hnr : b.row = true → noRef x'' = true) (hfl : b.floor ≤ j) :
    ∃ w', (storeCells ⟨g, j * L.esz + off, none⟩ vals).run P w = .ok () w' ∧ Inv B w0 (σ.put id L) (H.set id { b with xs := b.xs.set j x'' }) w' ∧ Ext σ w (σ.put id L) w' := by
  obtain ⟨uu, hu, hxr⟩ := m.reps.get hx
  have hokx := m.oks x (List.mem_of_getElem? hx)
  obtain ⟨hle, uu', hr', hcells⟩ := splice_reps hxr hokx hc ho hs
  have hsz : uu.cells.size = L.esz := m.sizes uu (List.mem_of_getElem? hu)
  have hsz' : uu'.cells.size = L.esz := by
    have := congrArg List.length hcells
    simp at this
    omega
  rcases m.shape with ⟨hn, _, _⟩ | ⟨g', cap, cur, hv', hB, hh, hn, hm, hcs, ht⟩
  · rw [hn] at hv; cases hv
  · rw [hv'] at hv
    cases hv
    have hjlen : j < b.xs.length := (List.getElem?_eq_some_iff.1 hx).1
    have hje : j * L.esz + L.esz ≤ b.xs.length * L.esz := by
      rw [← Nat.succ_mul]; exact Nat.mul_le_mul_right _ hjlen
    have hce : b.xs.length * L.esz ≤ c * L.esz := Nat.mul_le_mul_right _ hn
    have hfit : j * L.esz + off + 0 + vals.length ≤ cur.size := by omega
    have hrun := run_storeCells_at P g (j * L.esz + off) b.elem vals 0 cur w hh hfit ho
    simp only [Nat.add_zero] at hrun
    -- the row in parts
    have hF : flat us = (flat us).take (j * L.esz) ++ uu.cells.toList ++ (flat us).drop (j * L.esz + L.esz) := by
      have := flat_set m.sizes hu hsz
      rw [← this]
      congr 1
      apply List.ext_getElem?
      intro i
      rw [List.getElem?_set]
      split
      · rename_i e; subst e; split
        · exact hu
        · rename_i hge; rw [List.getElem?_eq_none (by omega)]
      · rfl
    have hA : ((flat us).take (j * L.esz)).length = j * L.esz := by
      rw [List.length_take, flat_length m.sizes, m.len]; omega
    have hcur : cur.toList = (flat us).take (j * L.esz) ++ uu.cells.toList ++ (flat us).drop (j * L.esz + L.esz) ++ cur.toList.drop (b.xs.length * L.esz) := by
      rw [← hF, ← ht, List.take_append_drop]
    have hsp := splice_list ((flat us).take (j * L.esz)) uu.cells.toList ((flat us).drop (j * L.esz + L.esz)) (cur.toList.drop (b.xs.length * L.esz)) vals off vals.length rfl (by simpa using hle)
    rw [hA, ← hcur] at hsp
    rw [hsp] at hrun
    have hflat' : flat (us.set j uu') = (flat us).take (j * L.esz) ++ (uu.cells.toList.take off ++ vals ++ uu.cells.toList.drop (off + vals.length)) ++ (flat us).drop (j * L.esz + L.esz) := by
      rw [flat_set m.sizes hu hsz', hcells]
    rw [← hflat'] at hrun
    have hsizes' : ∀ u ∈ us.set j uu', u.cells.size = L.esz := by
      intro u hu'
      rcases List.mem_or_eq_of_mem_set hu' with hu' | hu'
      · exact m.sizes u hu'
      · rw [hu']; exact hsz'
    have hlen' : (flat (us.set j uu')).length = b.xs.length * L.esz := by
      rw [flat_length hsizes', List.length_set, m.len]
    have hheap := setRow_heap w g cur (flat (us.set j uu') ++ cur.toList.drop (b.xs.length * L.esz)).toArray b.elem (0, 0) hh
    have hown : L.v.ownBlock = some g := by rw [hv']; rfl
    have hgb : w.grownBy (w.setRow g (flat (us.set j uu') ++ cur.toList.drop (b.xs.length * L.esz)).toArray) L.v.ownBlock :=
      ⟨rfl, rfl, rfl, by simp, fun k _ hk => setRow_other w g k _ (fun e => hk (by rw [hown, e]))⟩
    refine ⟨_, hrun, ?_⟩
    refine h.upd m.hb m.live m.box hgb { b with xs := b.xs.set j x'' } m.live L rfl (.inl rfl) rfl (by simp) (fun g' hg' => .inl hg') ?_ ?_
    · intro g' c' hg' hc'
      rw [hown] at hg'
      cases hg'
      have hlt : c' < j * L.esz := Nat.lt_of_lt_of_le hc' (Nat.mul_le_mul_right _ hfl)
      rw [cell_setRow_same w g c' cur _ b.elem (0, 0) hh, cell_of_row w g c' cur b.elem (0, 0) hh]
      rw [List.getElem?_toArray, ← Array.getElem?_toList, hcur, hflat']
      have hlt' : c' < ((flat us).take (j * L.esz)).length := by rw [hA]; exact hlt
      rw [List.append_assoc, List.append_assoc, List.getElem?_append_left hlt', List.append_assoc, List.append_assoc, List.getElem?_append_left hlt']
    · intro e
      refine ⟨by simpa using m.tot, ⟨us.set j uu', (m.reps.ext e).set j (hxx _ _ _ (hr'.ext e)), hsizes', ?_, ?_⟩, m.nilp, m.esz, ?_, fun hrow => ?_⟩
      · intro u hu'
        rw [hflat'] at hu'
        simp only [List.mem_append] at hu'
        rcases hu' with (hu' | (hu' | hu') | hu') | hu'
        · exact m.ones u (List.mem_of_mem_take hu')
        · have := (hxr.cells hokx).2 u (List.mem_of_mem_take hu'); exact this
        · exact ho u hu'
        · exact (hxr.cells hokx).2 u (List.mem_of_mem_drop hu')
        · exact m.ones u (List.mem_of_mem_drop hu')
      · refine ⟨by simpa using hlen', .inr ⟨g, c, _, by simpa using hv', hB, hheap, by simpa using hn, hm, ?_, ?_⟩⟩
        · simp only [List.size_toArray, List.length_append, hlen', List.length_drop, Array.length_toList, hcs]
          omega
        · simp only [List.length_set]
          rw [List.take_append_of_le_length (by omega), List.take_of_length_le (by omega)]
      · intro y hy
        rcases List.mem_or_eq_of_mem_set hy with hy | hy
        · exact m.oks y hy
        · rw [hy]; exact hok
      · intro y hy
        rcases List.mem_or_eq_of_mem_set hy with hy | hy
        · exact m.fzs hrow y hy
        · rw [hy]; exact hnr hrow

theorem splice_noRef {x x' : V} {off : Nat} {cs : List V} (hx : noRef x = true) (hc : noRefs cs = true) (hs : spliceV x off cs = some x') : noRef x' = true := by
  unfold spliceV at hs
  split at hs
  · rename_i ds
    split at hs
    · simp only [Option.some.injEq] at hs
      subst hs
      rw [show noRef (.agg (ds.take off ++ cs ++ ds.drop (off + cs.length))) = noRefs (ds.take off ++ cs ++ ds.drop (off + cs.length)) from rfl, noRefs_iff]
      have hd : ∀ y ∈ ds, noRef y = true := (noRefs_iff ds).1 hx
      have hc' := (noRefs_iff cs).1 hc
      intro y hy
      simp only [List.mem_append] at hy
      rcases hy with (hy | hy) | hy
      · exact hd y (List.mem_of_mem_take hy)
      · exact hc' y hy
      · exact hd y (List.mem_of_mem_drop hy)
    · cases hs
  · split at hs
    · simp only [Option.some.injEq] at hs
      subst hs
      simpa [noRefs] using hc
    · cases hs

theorem run_storeAt {P : Program} {t : TypeId} {b o : Nat} {v : Value} {inf : TypeInfo} {w w' : World} (hi : P.info? t = some inf) (hs : v.cells.size = inf.size)
    (h : (storeCells ⟨b, o, none⟩ v.cells.toList).run P w = .ok () w') : (Instr.storeAt t (.pointer (some ⟨b, o, none⟩)) v).run P w = .ok () w' := by
  simp [Instr.storeAt, Instr.sureAddr, storeVar, sizeOf, typeInfo, hi, hs, h]

theorem store_ok {E B w0 σ H w} {P : Program} (hE : EnvOK E) (hP : E.P = P) (h : Inv B w0 σ H w) {t : TypeId} {a x : V} {av xv : Value} {H' : Heap}
    (ha : Reps σ w [a] [av]) (hx : Reps σ w [x] [xv]) (hs : storeD E H t a x = some H') :
    ∃ w' σ', (Instr.storeAt t av xv).run P w = .ok () w' ∧ Inv B w0 σ' H' w' ∧ Ext σ w σ' w' := by
  unfold storeD at hs
  split at hs
  · cases hs
  · rename_i ti hti
    obtain ⟨inf, d, hi, hd, h1, h2, h3, h4⟩ := tiOf_some (hE.ti t ti hti)
    rw [hP] at hi hd
    split at hs
    · rename_i id j off tot
      split at hs
      · rename_i b hb
        obtain ⟨b1, b2, b3⟩ := boxAt_some hb
        split at hs
        · rename_i y hy
          split at hs
          · rename_i hc
            simp only [Bool.and_eq_true, beq_iff_eq, decide_eq_true_eq] at hc
            obtain ⟨⟨c1, c2⟩, c3⟩ := hc
            have hsz : xv.cells.size = inf.size := by rw [← hx.cells_len c3, c1, h2]
            cases ha with
            | ptr g k1 k2 k3 k4 k5 =>
              rename_i L'
              subst k4
              split at hs
              · -- the array behind a slice: the value is frozen first
                split at hs
                · rename_i x' hf
                  split at hs
                  · rename_i y1 hy1
                    obtain ⟨y', hy', hyy⟩ : ∃ y', spliceV y off x'.cells = some y' ∧ retype (E.rows b.elem) y' = y1 := by
                      cases hq : spliceV y off x'.cells with
                      | none => simp [hq] at hy1
                      | some y' => exact ⟨y', rfl, by simpa [hq] using hy1⟩
                    split at hs
                    · cases hs
                    · rename_i hcc
                      simp only [Option.some.injEq] at hs
                      subst hs
                      simp only [Bool.or_eq_true, Bool.not_eq_true', List.contains_eq_mem, decide_eq_true_eq, not_or, Bool.not_eq_false] at hcc
                      obtain ⟨⟨n1, n2⟩, n3⟩ := hcc
                      obtain ⟨hI, hEx⟩ := h.freeze (idsA x)
                      have hxr := frz_reps h hx hf (idsA x) (fun i hi => hi)
                      have hb' : (bump H (idsA x))[id]? = some b := by rw [bump_get, b1]; simp [n1]
                      obtain ⟨L, us, m⟩ := hI.meet hb' b2
                      have hL : L' = L := by
                        have := m.box
                        simp only [Sg.freeze] at this
                        rw [k1] at this
                        cases this
                        rfl
                      subst hL
                      obtain ⟨n, c, hv⟩ := k3 (m.tot.trans b3)
                      obtain ⟨hcr, hco⟩ := hxr.cells n2
                      obtain ⟨w', hrun, hI', hEx'⟩ := write_ok (P := P) hI m hv hy hcr hco hy' (fun σ w v hq => by rw [← hyy]; exact retype_reps _ hq) n3 (fun hrow => by rw [← hyy, retype_noRef]; exact splice_noRef (m.fzs hrow _ (List.mem_of_getElem? hy)) (noRef_cells (frz_noRef h hx hf)) hy') c2
                      exact ⟨w', _, run_storeAt hi hsz hrun, hI', hEx.trans hEx'⟩
                  · cases hs
                · cases hs
              · split at hs
                · rename_i y' hy'
                  split at hs
                  · rename_i n3
                    simp only [Option.some.injEq] at hs
                    subst hs
                    obtain ⟨L, us, m⟩ := h.meet b1 b2
                    have hL : L' = L := by
                      have := m.box
                      rw [k1] at this
                      cases this
                      rfl
                    subst hL
                    obtain ⟨n, c, hv⟩ := k3 (m.tot.trans b3)
                    obtain ⟨hcr, hco⟩ := hx.cells c3
                    obtain ⟨w', hrun, hI', hEx'⟩ := write_ok (P := P) h m hv hy hcr hco hy' (fun _ _ _ hq => hq) n3 (fun hrow => absurd hrow (by assumption)) c2
                    exact ⟨w', _, run_storeAt hi hsz hrun, hI', hEx'⟩
                  · cases hs
                · cases hs
          · cases hs
        · cases hs
      · cases hs
    · cases hs

/-! ### new rows -/

theorem grownBy_refl (w : World) (row : Option Nat) : w.grownBy w row := ⟨rfl, rfl, rfl, Nat.le_refl _, fun _ _ _ => rfl⟩

/-- A new row of elements (a variable: one element). -/
theorem newRow_ok {B w0 σ H w} (h : Inv B w0 σ H w) {k : Nat} (hk0 : freeB H k = true) {xs : List V} {us : List Value} {e n : Nat} (t : TypeId) (row : Bool) (hr : Reps σ w xs us) (hnr : row = true → ∀ x ∈ xs, noRef x = true) (hk : ∀ x ∈ xs, okV x = true) (hs : ∀ u ∈ us, u.cells.size = e)
    (ho : ∀ u ∈ flat us, u.oneCell' = true) (hn : xs.length ≤ maxLen) :
    ∃ σ', Inv B w0 σ' (place H k (newBox row false t e xs)) (w.alloc (.cells (flat us).toArray t)) ∧ Ext σ w σ' (w.alloc (.cells (flat us).toArray t)) ∧
      σ'.box k = some ⟨.slice (some ⟨w.heap.size, 0, none⟩) xs.length xs.length, xs.length, e⟩ := by
  have hlen : us.length = xs.length := hr.length.symm
  have hsz : (flat us).toArray.size = xs.length * e := by simp [flat_length hs, hlen]
  have hown := World.ownsRow_lit (base := B) (e := t) (size := e) w (flat us).toArray xs.length h.size hn hsz
  obtain ⟨h1, h2⟩ := h.push (w.grownBy_alloc (.cells (flat us).toArray t) none) hk0 (newBox row false t e xs) rfl ⟨.slice (some ⟨w.heap.size, 0, none⟩) xs.length xs.length, xs.length, e⟩ (by simp [newBox])
    (fun g hg => by simp [Value.ownBlock] at hg; omega) (fun ex => ⟨rfl, ⟨us, hr.ext ex, hs, ho, by simpa [newBox] using hown⟩, by simp [newBox], rfl, hk, hnr⟩)
  exact ⟨_, h1, h2, by simp [Sg.put]⟩

theorem single_flat (u : Value) : flat [u] = u.cells.toList := by simp [flat]

theorem run_newVar {P : Program} (w : World) (t : TypeId) (v : Value) : (newVar t v).run P w = .ok ⟨w.heap.size, 0, none⟩ (w.alloc (.cells v.cells t)) := by
  rfl

/-- A new variable that holds a value. -/
theorem newVar_ok {B w0 σ H w} {P : Program} (h : Inv B w0 σ H w) {k : Nat} (hk0 : freeB H k = true) {x : V} {u : Value} {e : Nat} (t : TypeId) (hr : Reps σ w [x] [u]) (hk : okV x = true) (hs : x.cells.length = e) :
    ∃ w' σ', (newVar t u).run P w = .ok ⟨w.heap.size, 0, none⟩ w' ∧ Inv B w0 σ' (place H k (newBox false false t e [x])) w' ∧ Ext σ w σ' w' ∧ Reps σ' w' [.ptr k 0 0 1] [.pointer (some ⟨w.heap.size, 0, none⟩)] := by
  have hsz : u.cells.size = e := by rw [← hr.cells_len hk]; exact hs
  obtain ⟨σ', h1, h2, h3⟩ := newRow_ok (xs := [x]) (us := [u]) (e := e) (n := 1) h hk0 t false hr (by simp) (by simpa using hk) (by simpa using hsz) (by rw [single_flat]; exact (hr.cells hk).2) (by simp [maxLen])
  rw [single_flat] at h1 h2
  simp only [Array.toArray_toList] at h1 h2
  exact ⟨_, σ', run_newVar w t u, h1, h2, .ptr w.heap.size h3 (Nat.le_refl _) (fun _ => ⟨_, _, rfl⟩) (by simp) .nil⟩

end Go.Proofs.Ytcjccaonfgcakaa.Le
