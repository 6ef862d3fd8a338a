/-
  Symbolic values stand for values: scalars, literals, fields, indexes.
-/
import Derived.Test.YtpikcdlhgiooaaaGreatL4
namespace Go.Proofs.YtpikcdlhgiooaaaGreat.Le
set_option linter.unusedVariables false
set_option linter.unusedSimpArgs false

section
variable {U : Univ}

theorem asInt_toV {x : SV U.Ty} {k : IntKind} {a : Int} (h : asInt x = some (k, a)) : toV U x = .lit (.int k a) := by
  unfold asInt at h
  split at h <;> simp_all [toV]
theorem asStr_toV {x : SV U.Ty} {s : ByteArray} (h : asStr x = some s) : toV U x = .lit (.string s) := by
  unfold asStr at h
  split at h <;> simp_all [toV]
theorem asBool_toV {x : SV U.Ty} {b : Bool} (h : asBool x = some b) : toV U x = .lit (.bool b) := by
  unfold asBool at h
  split at h <;> simp_all [toV]
theorem okInt_toV {x : SV U.Ty} {n : Int} {l : Bool} (h : okInt x = some (n, l)) : ∃ k, toV U x = .lit (.int k n) := by
  unfold okInt at h
  split at h <;> simp_all [toV]

theorem intT_ok {op : BinOp} {k : IntKind} {a b : Int} {l : Bool} {y : SV U.Ty} (h : (intT op k a b l).Runs y) : (intOp op k a b).map V.lit = some (toV U y) := by
  unfold intT at h
  cases op <;> simp only [Tr.Runs] at h <;> (try (subst h; rfl)) <;> (try (exact h.elim))
  · split at h
    · split at h
      · simp [Tr.Runs] at h
      · rename_i hb
        simp only [Tr.Runs] at h
        subst h
        simp [intOp, hb, toV]
    · simp only [Tr.Runs, bne_iff_ne, ne_eq] at h
      obtain ⟨hb, rfl⟩ := h
      simp [intOp, hb, toV]
  · split at h
    · split at h
      · simp [Tr.Runs] at h
      · rename_i hb
        simp only [Tr.Runs] at h
        subst h
        simp [intOp, hb, toV]
    · simp only [Tr.Runs, bne_iff_ne, ne_eq] at h
      obtain ⟨hb, rfl⟩ := h
      simp [intOp, hb, toV]

theorem shiftT_ok {op : BinOp} {k : IntKind} {a b : Int} {l : Bool} {y : SV U.Ty} (h : (shiftT op k a b l).Runs y) : (shiftOp op k a b).map V.lit = some (toV U y) := by
  unfold shiftT at h
  split at h
  · simp [Tr.Runs] at h
  · rename_i r hr
    have key : ∀ (hb : ¬ b < 0) (hy : SV.si k r = y), (shiftOp op k a b).map V.lit = some (toV U y) := by
      intro hb hy
      subst hy
      unfold shiftOp
      unfold shiftV at hr
      split at hr <;> simp_all [toV]
    split at h
    · split at h
      · simp [Tr.Runs] at h
      · rename_i hb
        exact key hb h
    · simp only [Tr.Runs, decide_eq_true_eq] at h
      simp_all

theorem strT_ok {op : BinOp} {x y : ByteArray} {z : SV U.Ty} (h : (strT op x y).Runs z) : (strOp op x y).map V.lit = some (toV U z) := by
  unfold strT at h
  cases op <;> simp only [Tr.Runs] at h <;> (try (subst h; rfl)) <;> (try (exact h.elim))
  obtain ⟨hb, rfl⟩ := h
  simp only [decide_eq_true_eq] at hb
  simp [strOp, hb, toV]

theorem eqCellsS_ok : ∀ {ks : List FK} {xs ys : List (SV U.Ty)} {r : Bool}, eqCellsS ks xs ys = some r → eqCells ks (toVs U xs) (toVs U ys) = some r := by
  intro ks
  induction ks with
  | nil =>
    intro xs ys r h
    unfold eqCellsS at h
    split at h <;> simp_all [toVs, eqCells]
  | cons k ks ih =>
    intro xs ys r h
    cases xs with
    | nil => cases k <;> simp [eqCellsS] at h
    | cons x xs =>
      cases ys with
      | nil => cases k <;> simp [eqCellsS] at h
      | cons y ys =>
        cases k with
        | b =>
          simp only [eqCellsS] at h
          split at h
          · rename_i a b r' h1 h2 h3
            simp only [Option.some.injEq] at h
            subst h
            simp only [toVs, asBool_toV h1, asBool_toV h2, eqCells, ih h3]
          · cases h
        | i k =>
          simp only [eqCellsS] at h
          split at h
          · rename_i k1 a k2 b r' h1 h2 h3
            split at h
            · rename_i hk
              simp only [Option.some.injEq] at h
              subst h
              simp only [toVs, asInt_toV h1, asInt_toV h2, eqCells, ih h3, hk, and_self, if_true]
            · cases h
          · cases h
        | s =>
          simp only [eqCellsS] at h
          split at h
          · rename_i a b r' h1 h2 h3
            simp only [Option.some.injEq] at h
            subst h
            simp only [toVs, asStr_toV h1, asStr_toV h2, eqCells, ih h3]
          · cases h

theorem binT_ok {E : Env} {op : BinOp} {t : TypeId} {x y z : SV U.Ty} (h : (binT E op t x y).Runs z) : binD E op t (toV U x) (toV U y) = some (toV U z) := by
  unfold binT at h
  split at h
  · rename_i xs ys
    split at h
    · rename_i ks hks
      split at h
      · rename_i b hb
        have := eqCellsS_ok hb
        split at h
        · simp only [Tr.Runs] at h
          subst h
          simp only [toV, binD, hks, this, Option.map_some]
        · simp only [Tr.Runs] at h
          subst h
          simp only [toV, binD, hks, this, Option.map_some]
        · simp [Tr.Runs] at h
      · simp [Tr.Runs] at h
    · simp [Tr.Runs] at h
  · split at h
    · rename_i k a j b ha hb
      rw [asInt_toV ha, asInt_toV hb]
      split at h
      · exact shiftT_ok h
      · exact shiftT_ok h
      · rename_i h1 h2
        split at h
        · rename_i hk
          have hi := intT_ok h
          subst hk
          have hb : binD E op t (.lit (.int k a)) (.lit (.int k b)) = (intOp op k a b).map V.lit := by
            cases op <;> first | exact absurd rfl h1 | exact absurd rfl h2 | simp [binD]
          simp_all
        · simp [Tr.Runs] at h
    · split at h
      · rename_i a b ha hb
        rw [asStr_toV ha, asStr_toV hb]
        have := strT_ok h
        unfold binD
        split <;> simp_all
      · split at h
        · rename_i a b ha hb
          rw [asBool_toV ha, asBool_toV hb]
          split at h
          · rename_i hE
            split at h
            · simp only [Tr.Runs] at h
              subst h
              simp [binD, hE, toV]
            · simp only [Tr.Runs] at h
              subst h
              simp [binD, hE, toV]
            · simp [Tr.Runs] at h
          · simp [Tr.Runs] at h
        · simp [Tr.Runs] at h

theorem unT_ok {op : UnOp} {x z : SV U.Ty} (h : (unT op x).Runs z) : unD op (toV U x) = some (toV U z) := by
  unfold unT at h
  split at h
  · rename_i k n hk
    simp only [Tr.Runs] at h
    subst h
    rw [asInt_toV hk]
    rfl
  · rename_i k n hk
    simp only [Tr.Runs] at h
    subst h
    rw [asInt_toV hk]
    rfl
  · rename_i b _ hb
    simp only [Tr.Runs] at h
    subst h
    rw [asBool_toV hb]
    rfl
  · simp [Tr.Runs] at h

theorem mmT_ok {isMax : Bool} {k : IntKind} : ∀ {xs : List (SV U.Ty)} {a r : Int}, mmT isMax k a xs = some r → mm isMax k a (toVs U xs) = some (.lit (.int k r)) := by
  intro xs
  induction xs with
  | nil => intro a r h; simp only [mmT, Option.some.injEq] at h; subst h; rfl
  | cons x xs ih =>
    intro a r h
    simp only [mmT] at h
    split at h
    · rename_i j b hj
      split at h
      · rename_i hk
        simp only [toVs, asInt_toV hj, mm, hk, if_true]
        exact hk ▸ ih h
      · cases h
    · cases h

theorem minmaxT_ok {isMax : Bool} {xs : List (SV U.Ty)} {z : SV U.Ty} (h : (minmaxT isMax xs).Runs z) : minmax isMax (toVs U xs) = some (toV U z) := by
  unfold minmaxT at h
  split at h
  · rename_i x rest
    split at h
    · rename_i k a hk
      split at h
      · rename_i r hr
        simp only [Tr.Runs] at h
        subst h
        simp only [toVs, asInt_toV hk, minmax, toV]
        exact mmT_ok hr
      · simp [Tr.Runs] at h
    · simp [Tr.Runs] at h
  · simp [Tr.Runs] at h

/-! ### literals -/

def partsV (parts : List (Nat × SV U.Ty)) : List (Nat × V) := parts.map fun (i, x) => (i, toV U x)

theorem fillS_ok {place : Nat → Option (Nat × Nat)} : ∀ {parts : List (Nat × SV U.Ty)} {cs cs' : List (SV U.Ty)}, fillS cs parts place = some cs' → fillV (toVs U cs) (partsV parts) place = some (toVs U cs') := by
  intro parts
  induction parts with
  | nil => intro cs cs' h; simp only [fillS, Option.some.injEq] at h; subst h; rfl
  | cons p parts ih =>
    intro cs cs' h
    obtain ⟨i, v⟩ := p
    simp only [fillS] at h
    split at h
    · cases h
    · rename_i off size hp
      split at h
      · rename_i hc
        simp only [Bool.and_eq_true, beq_iff_eq, decide_eq_true_eq] at hc
        obtain ⟨⟨h1, h2⟩, h3⟩ := hc
        have := ih h
        simp only [partsV, List.map_cons, fillV, hp]
        rw [cells_toV h3, length_toVs, h1, length_toVs, okS_okV h3]
        simp only [beq_self_eq_true, h2, decide_true, Bool.and_self, if_true]
        rw [← this]
        simp only [partsV, toVs_map, List.map_append, List.map_take, List.map_drop]
      · cases h

theorem cells_toV' {x : SV U.Ty} (h : ∀ cs, x ≠ .raw (.agg cs)) : (toV U x).cells = toVs U (cellsS x) := by
  cases x with
  | raw v =>
    cases v with
    | agg cs => exact absurd rfl (h cs)
    | _ => rfl
  | _ => rfl

theorem ofV_cells {z : V} : toVs U (cellsS (ofV U z)) = z.cells := by
  have hr : ∀ cs, ofV U z ≠ .raw (.agg cs) := by
    intro cs hcs
    unfold ofV at hcs
    split at hcs
    · cases hcs
    · rename_i hne
      unfold ofV1 at hcs
      split at hcs <;> (try cases hcs)
      simp at hne
  rw [← cells_toV' hr, toV_ofV]

theorem buildT_ok {E : Env} {t : TypeId} {parts : List (Nat × SV U.Ty)} {y : SV U.Ty} (h : buildT E t parts = some y) : buildD E t (partsV parts) = some (toV U y) := by
  unfold buildT at h
  unfold buildD
  split at h
  · rename_i i hi
    rw [hi]
    split at h
    · rename_i z hz
      simp only [hz]
      split at h
      · rename_i hok
        rw [if_pos hok]
        split at h
        · rename_i fs hty
          simp only [hty]
          split at h
          · rename_i hall
            rw [if_pos hall]
            cases hf : fillS (cellsS (ofV U z)) parts (placesOf E fs) with
            | none => simp [hf] at h
            | some cs =>
              simp only [hf, Option.map_some, Option.some.injEq] at h
              subst h
              have := fillS_ok hf
              rw [ofV_cells] at this
              simp only [this, Option.map_some, toV]
          · cases h
        · rename_i len e hty
          simp only [hty]
          split at h
          · rename_i ei hei
            simp only [hei]
            cases hf : fillS (cellsS (ofV U z)) parts (fun i => some (i * ei.size, ei.size)) with
            | none => simp [hf] at h
            | some cs =>
              simp only [hf, Option.map_some, Option.some.injEq] at h
              subst h
              have := fillS_ok hf
              rw [ofV_cells] at this
              simp only [this, Option.map_some, toV]
          · cases h
        · cases h
      · cases h
    · cases h
  · cases h

theorem fillE_full (sz : Nat) : ∀ (vs pre post : List V), (∀ v ∈ vs, v.cells.length = sz ∧ okV v = true) → vs.length ≤ post.length →
    fillE (pre ++ post) sz ((List.range' pre.length vs.length).zip vs) = some (pre ++ vs ++ post.drop vs.length) := by
  intro vs
  induction vs with
  | nil => intro pre post _ _; simp [fillE]
  | cons v vs ih =>
    intro pre post h hl
    cases post with
    | nil => simp at hl
    | cons p post =>
      simp only [List.length_cons, List.range'_succ, List.zip_cons_cons, fillE]
      obtain ⟨h1, h2⟩ := h v (by simp)
      have hset : (pre ++ p :: post).set pre.length v = (pre ++ [v]) ++ post := by simp
      have := ih (pre ++ [v]) post (fun x hx => h x (by simp [hx])) (by simpa using hl)
      rw [List.length_append, List.length_singleton] at this
      rw [h1, h2, hset, this]
      simp

theorem buildSliceT_ok {E : Env} (hU : UnivOK U E) {k : Nat} {H H' : SHeap U} {t : TypeId} {n : Nat} {parts : List (Nat × SV U.Ty)} {y : SV U.Ty} (h : (buildSliceT E k H t n parts).Runs (y, H')) :
    buildSliceD E k (toH U H) t n (partsV parts) = some (toV U y, toH U H') := by
  unfold buildSliceT at h
  unfold buildSliceD
  split at h
  · rename_i e sz by' z0 hti
    rw [hti]
    simp only
    split at h
    · rename_i ei hei
      simp only [hei]
      split at h
      · rename_i z hz
        simp only [runs_andThen] at h
        obtain ⟨vs, hvs, h⟩ := h
        split at h
        · rename_i ys hys
          simp only [runs_when, Tr.Runs, Prod.mk.injEq] at h
          obtain ⟨⟨⟨c1, c2, c3, c4⟩, c5, c6, c7⟩, rfl, rfl⟩ := h
          have hp2 : (partsV parts).map (·.2) = toVs U (parts.map (·.2)) := by
            rw [toVs_map]; simp [partsV]
          have hp1 : (partsV parts).map (·.1) = List.range n := by rw [← c5]; simp [partsV]
          obtain ⟨d1, d2⟩ := decAll_ok hU hys
          have hf := frzAllS_ok hvs
          have hlen : (toVs U vs).length = n := by
            rw [← frzAll_length hf, length_toVs, List.length_map, ← List.length_map (f := (·.1)) (as := parts), c5, List.length_range]
          have hlen' : (ys.map (U.enc e)).length = n := by rw [← d1, List.length_map, hlen]
          have hempty : (n == 0 && !(partsV parts).isEmpty) = false := by
            cases hn : n with
            | zero =>
              simp_all
            | succ m => simp
          rw [hz, hp2, hf]
          simp only
          rw [if_pos ⟨c1, c2, c3, c4, hempty⟩, hp1, d1]
          have hfull := fillE_full ei.size (ys.map (U.enc e)) [] (List.replicate n (retype (E.rows e) z)) (by
            intro v hv
            rw [← d1] at hv
            obtain ⟨w, hw, rfl⟩ := List.mem_map.1 hv
            rw [toVs_map] at hw
            obtain ⟨s, hs, rfl⟩ := List.mem_map.1 hw
            have hok := d2 s hs
            rw [retype_ok, retype_len]
            refine ⟨?_, okS_okV hok⟩
            rw [cells_toV hok, length_toVs]
            simpa using List.all_eq_true.1 c6 s hs) (by rw [hlen']; simp)
          rw [hlen'] at hfull
          simp only [List.length_nil, List.nil_append] at hfull
          rw [show List.range n = List.range' 0 n from List.range_eq_range' .., hfull]
          have hdrop : List.drop n (List.replicate n (retype (E.rows e) z)) = [] := by simp
          rw [hdrop, List.append_nil, toH_place, idsAs_toV, bumpS_ok H _ (frzAllS_rows hvs)]
          simp [toV, toBox, newBox, c7]
        · simp [Tr.Runs] at h
      · simp [Tr.Runs] at h
    · simp [Tr.Runs] at h
  · simp [Tr.Runs] at h

/-! ### fields, indexes -/

theorem fieldAddrT_ok {E : Env} {s : TypeId} {x y : SV U.Ty} {f : Nat} (h : fieldAddrT E s x f = some y) : fieldAddrD E s (toV U x) f = some (toV U y) := by
  unfold fieldAddrT at h
  unfold fieldAddrD
  split at h
  · rename_i fs sz by' z0 hti
    rw [hti]
    simp only
    split at h
    · rename_i o t ho
      rw [ho]
      simp only
      split at h
      · rename_i n hn
        simp only [hn]
        split at h
        · cases h
        · rename_i hz
          rw [if_neg hz]
          split at h
          · simp only [Option.some.injEq] at h; subst h; rfl
          · simp only [Option.some.injEq] at h; subst h; rfl
          · simp only [Option.some.injEq] at h; subst h; rfl
          · cases h
      · cases h
    · cases h
  · cases h

theorem fieldT_ok {E : Env} {s : TypeId} {x y : SV U.Ty} {f : Nat} (h : fieldT E s x f = some y) : fieldD E s (toV U x) f = some (toV U y) := by
  unfold fieldT at h
  unfold fieldD
  split at h
  · rename_i fs sz by' z0 cs hti
    rw [hti]
    simp only [toV]
    split at h
    · rename_i o t ho
      rw [ho]
      simp only
      split at h
      · rename_i i hi
        simp only [hi, partS_ok, h, Option.map_some]
      · cases h
    · cases h
  · cases h

theorem pickIdx_runs {L : Type} {n : Int} {lit : Bool} {len : Nat} {k : Nat → Tr U L} {y : L} (h : (pickIdx n lit len k).Runs y) : (0 ≤ n ∧ n < len) ∧ (k n.toNat).Runs y := by
  unfold pickIdx at h
  split at h
  · split at h
    · simp_all
    · simp [Tr.Runs] at h
  · revert h
    suffices hh : ∀ l : List Nat, (∀ i ∈ l, i < len) → (l.foldr (fun (i : Nat) rest => Tr.br (n == (i : Int)) (k i) rest) .fail).Runs y → (0 ≤ n ∧ n < len) ∧ (k n.toNat).Runs y from
      fun h => hh _ (fun i hi => by simpa using hi) h
    intro l
    induction l with
    | nil => intro _ h; simp [Tr.Runs] at h
    | cons i l ih =>
      intro hl h
      simp only [List.foldr_cons, Tr.Runs, beq_iff_eq] at h
      rcases h with ⟨hn, hr⟩ | ⟨_, hr⟩
      · simp_all
      simp_all

theorem indexAddrT_ok {E : Env} {H : SHeap U} {t : TypeId} {x i y : SV U.Ty} (h : (indexAddrT E H t x i).Runs y) : indexAddrD E (toH U H) t (toV U x) (toV U i) = some (toV U y) := by
  unfold indexAddrT at h
  unfold indexAddrD
  split at h
  · rename_i kk n ti hn hti
    rw [asInt_toV hn, hti]
    simp only
    split at h
    · rename_i el hty
      simp only [hty]
      split at h
      · rename_i et xs
        simp only [runs_when, Tr.Runs, decide_eq_true_eq] at h
        obtain ⟨h1, h2, rfl⟩ := h
        simp only [toV, List.length_map, h2, h1, and_self, if_true]
      · rename_i et xs
        simp only [runs_when, Tr.Runs, decide_eq_true_eq] at h
        obtain ⟨h1, h2, rfl⟩ := h
        simp only [toV, List.length_map, h2, h1, and_self, if_true]
      · rename_i id m
        obtain ⟨et, xs, fl, r1, r2, r3, r4⟩ := rowAt_runs h
        simp only [runs_when, Tr.Runs, decide_eq_true_eq] at r3
        obtain ⟨h1, h2, rfl⟩ := r3
        simp only [toV, r4, toBox, h2, h1, and_self, if_true, Nat.zero_add]
      · rename_i id off len tot
        obtain ⟨et, xs, fl, r1, r2, r3, r4⟩ := rowAt_runs h
        simp only [runs_when, Tr.Runs, decide_eq_true_eq] at r3
        obtain ⟨h1, h2, rfl⟩ := r3
        simp only [toV, r4, toBox, h2, h1, and_self, if_true]
      · simp [Tr.Runs] at h
    · rename_i len e hty
      simp only [hty]
      split at h
      · simp [Tr.Runs] at h
      · rename_i sz hsz
        split at h
        · obtain ⟨hb, h⟩ := pickIdx_runs h
          simp only [Tr.Runs] at h
          subst h
          simp only [toV, hsz, hb, and_self, if_true]
        · obtain ⟨hb, h⟩ := pickIdx_runs h
          simp only [Tr.Runs] at h
          subst h
          simp only [toV, hsz, hb, and_self, if_true]
        · split at h
          · rename_i hc
            simp only [Bool.and_eq_true, decide_eq_true_eq] at hc
            simp only [Tr.Runs, decide_eq_true_eq] at h
            obtain ⟨hb, rfl⟩ := h
            simp only [toV, hsz, hb, and_self, if_true, hc.1, Nat.mul_one, Nat.zero_add]
          · obtain ⟨hb, h⟩ := pickIdx_runs h
            simp only [Tr.Runs] at h
            subst h
            simp only [toV, hsz, hb, and_self, if_true]
        · obtain ⟨hb, h⟩ := pickIdx_runs h
          simp only [Tr.Runs] at h
          subst h
          simp only [toV, hsz, hb, and_self, if_true]
        · simp [Tr.Runs] at h
    · simp [Tr.Runs] at h
  · simp [Tr.Runs] at h

theorem get_bang {s : ByteArray} {n : Nat} (h : n < s.size) : s[n]? = some (s.get! n) := by
  rw [getElem?_pos s n h]
  cases s with
  | mk d => 
    have hd : n < d.size := h
    show some d[n] = some d[n]!
    simp_all

theorem indexT_ok {E : Env} {t : TypeId} {x i y : SV U.Ty} (h : (indexT E t x i).Runs y) : indexD E t (toV U x) (toV U i) = some (toV U y) := by
  unfold indexT at h
  unfold indexD
  split at h
  · rename_i kk n hn
    rw [asInt_toV hn]
    simp only
    split at h
    · rename_i len e sz by' z0 cs hti
      rw [hti]
      simp only [toV]
      split at h
      · rename_i ei hei
        obtain ⟨hb, h⟩ := pickIdx_runs h
        rw [runs_opt] at h
        simp only [hei, hb, and_self, if_true, partS_ok, h, Option.map_some]
      · simp [Tr.Runs] at h
    · rename_i sz by' z0 hti
      rw [hti]
      split at h
      · rename_i s hs
        rw [asStr_toV hs]
        split at h
        · rename_i hE
          simp only [Tr.Runs, decide_eq_true_eq] at h
          obtain ⟨⟨h1, h2⟩, rfl⟩ := h
          have hlt : n.toNat < s.size := by omega
          simp only [hE, h1, if_true, get_bang hlt, Option.map_some, toV]
        · simp [Tr.Runs] at h
      · simp [Tr.Runs] at h
    · simp [Tr.Runs] at h
  · simp [Tr.Runs] at h

theorem convB_runs {t : Nat} {xs : List (U.Ty t)} {y : SV U.Ty} (h : (convB t xs).Runs y) :
    U.esz t = 1 ∧ ∃ bs, bytesOf (xs.map (U.enc t)) = some bs ∧ bs.length ≤ maxLen ∧ y = .ss ⟨bs.toArray⟩ := by
  unfold convB at h
  simp only [runs_when, Tr.Runs] at h
  obtain ⟨h1, h2, h3⟩ := h
  refine ⟨h1, ?_⟩
  unfold okBytes at h2
  unfold strOf at h3
  grind

theorem convBT_ok {E : Env} {H : SHeap U} {src dst : TypeId} {x y : SV U.Ty} (h : (convBT E H src dst x).Runs y) : convD E (toH U H) src dst (toV U x) = some (toV U y, toH U H) := by
  unfold convBT at h
  simp only [runs_when] at h
  obtain ⟨hb, h⟩ := h
  simp only [Bool.and_eq_true] at hb
  split at h
  · simp only [Tr.Runs] at h
    subst h
    simp [convD, toV, hb, eszIs, elemsOf, bytesOf]
  · obtain ⟨h1, bs, h2, h3, rfl⟩ := convB_runs h
    simp [convD, toV, hb, eszIs, elemsOf, h1, h2, h3]
  · obtain ⟨h1, bs, h2, h3, rfl⟩ := convB_runs h
    simp [convD, toV, hb, eszIs, elemsOf, h1, h2, h3]
  · obtain ⟨t, xs, fl, h1, h2, h3, h4⟩ := rowAt_runs h
    obtain ⟨h5, bs, h6, h7, rfl⟩ := convB_runs h3
    subst h2
    rename_i id
    have he : elemsOf (toH U H) (toV U (.all id xs.length)) = some (xs.map (U.enc t)) := by
      simp only [toV, elemsOf, h4]
      simp only [toBox, Nat.zero_add, Nat.le_refl, decide_true, Bool.and_self, if_true, List.drop_zero, Option.some.injEq]
      exact List.take_of_length_le (by simp)
    simp only [toV] at he
    simp only [convD, toV, hb, he, eszIs, h4, toBox, h5, Bool.and_self, beq_self_eq_true, if_true, h6, if_pos h7]
  · obtain ⟨t, xs, fl, h1, h2, h3, h4⟩ := rowAt_runs h
    simp only [Tr.Runs, decide_eq_true_eq] at h3
    obtain ⟨hle, h3⟩ := h3
    obtain ⟨h5, bs, h6, h7, rfl⟩ := convB_runs h3
    rename_i id off len tot
    have he : elemsOf (toH U H) (toV U (.lsl id off len tot)) = some ((((xs.drop off).take len)).map (U.enc t)) := by
      simp only [toV, elemsOf, h4]
      simp [toBox, hle, List.map_take, List.map_drop]
    simp only [toV] at he
    simp only [convD, toV, hb, he, eszIs, h4, toBox, h5, Bool.and_self, beq_self_eq_true, if_true, h6, if_pos h7]
  · simp [Tr.Runs] at h

theorem convT_ok {E : Env} {H : SHeap U} {src dst : TypeId} {x y : SV U.Ty} (h : (convT E H src dst x).Runs y) : convD E (toH U H) src dst (toV U x) = some (toV U y, toH U H) := by
  unfold convT at h
  split at h
  · rename_i k n hn
    rw [asInt_toV hn]
    unfold convD
    split at h
    · rename_i j hj
      simp only [hj]
      split at h
      · rename_i hs
        simp only [Tr.Runs] at h
        subst h
        simp [hs, toV]
      · simp [Tr.Runs] at h
    · simp [Tr.Runs] at h
  · split at h
    · rename_i s hs
      rw [asStr_toV hs]
      unfold convD
      split at h
      · rename_i hb
        simp only [Tr.Runs] at h
        subst h
        simp only [Bool.and_eq_true] at hb
        simp [hb, toV]
      · simp [Tr.Runs] at h
    · exact convBT_ok h

end

end Go.Proofs.YtpikcdlhgiooaaaGreat.Le

/-
  Symbolic values stand for values: slices, calls, operations, regions.
-/
namespace Go.Proofs.YtpikcdlhgiooaaaGreat.Le
set_option linter.unusedVariables false
set_option linter.unusedSimpArgs false

section
variable {U : Univ}

theorem elemsT_ok {H : SHeap U} {x : SV U.Ty} {e : Nat} {ys : List (U.Ty e)} (h : (elemsT H x e).Runs ys) :
    elemsOf (toH U H) (toV U x) = some (ys.map (U.enc e)) ∧ (eszIs (toH U H) (toV U x) (U.esz e) = true) := by
  have go : ∀ (t : Nat) (xs : List (U.Ty t)), (if h : t = e then Tr.leaf (h ▸ xs) else Tr.fail : Tr U (List (U.Ty e))).Runs ys → ∃ he : t = e, (he ▸ xs : List (U.Ty e)) = ys := by
    intro t xs h
    split at h
    · rename_i he; exact ⟨he, h⟩
    · simp [Tr.Runs] at h
  unfold elemsT at h
  simp only at h
  split at h
  · simp only [Tr.Runs] at h; subst h; exact ⟨rfl, rfl⟩
  · obtain ⟨rfl, rfl⟩ := go _ _ h
    exact ⟨rfl, by simp [toV, eszIs]⟩
  · obtain ⟨rfl, rfl⟩ := go _ _ h
    exact ⟨rfl, by simp [toV, eszIs]⟩
  · obtain ⟨t, xs, fl, h1, h2, h3, h4⟩ := rowAt_runs h
    obtain ⟨rfl, rfl⟩ := go _ _ h3
    subst h2
    refine ⟨?_, by simp [toV, eszIs, h4, toBox]⟩
    simp only [toV, elemsOf, h4]
    simp only [toBox, Nat.zero_add, Nat.le_refl, decide_true, Bool.and_self, if_true, List.drop_zero, Option.some.injEq]
    exact List.take_of_length_le (by simp)
  · obtain ⟨t, xs, fl, h1, h2, h3, h4⟩ := rowAt_runs h
    simp only [Tr.Runs, decide_eq_true_eq] at h3
    obtain ⟨hle, h3⟩ := h3
    obtain ⟨rfl, rfl⟩ := go _ _ h3
    refine ⟨?_, by simp [toV, eszIs, h4, toBox]⟩
    simp only [toV, elemsOf, h4]
    simp [toBox, hle, List.map_take, List.map_drop]
  · simp [Tr.Runs] at h

theorem lookL_ok {L : Type} {kd : IntKind} {n : Int} {lit : Bool} {z : Tr U L} {f : SV U.Ty → Tr U L} {y : L} : ∀ {kvs : List (SV U.Ty)}, (lookL kd n lit z f kvs).Runs y →
    (lookV kd n (toVs U kvs) = some none ∧ z.Runs y) ∨ ∃ v, lookV kd n (toVs U kvs) = some (some (toV U v)) ∧ (f v).Runs y
  | [], h => .inl ⟨rfl, h⟩
  | [x], h => by
    cases x with
    | lit v => cases v <;> simp [lookL, Tr.Runs] at h
    | _ => simp [lookL, Tr.Runs] at h
  | x :: v :: r, h => by
    have key : ∀ k a, x = .lit (.int k a) → (lookV kd n (toVs U (x :: v :: r)) = some none ∧ z.Runs y) ∨ ∃ u, lookV kd n (toVs U (x :: v :: r)) = some (some (toV U u)) ∧ (f u).Runs y := by
      intro k a hx
      subst hx
      simp only [lookL, runs_when] at h
      obtain ⟨rfl, h⟩ := h
      simp only [toVs, toV, lookV, if_true]
      by_cases ha : n = a
      · subst ha
        simp only [if_true]
        cases lit with
        | true =>
          grind
        | false =>
          simp only [Bool.false_eq_true, if_false, Tr.Runs, beq_self_eq_true, true_and] at h
          grind
      · rw [if_neg ha]
        refine lookL_ok (lit := lit) (z := z) (f := f) (kvs := r) ?_
        cases lit with
        | true =>
          simp_all
        | false =>
          have hb : (n == a) = false := by simpa using ha
          simp only [Bool.false_eq_true, if_false, Tr.Runs, hb] at h
          simp_all
    cases x with
    | lit c =>
      cases c with
      | int k a => exact key k a rfl
      | _ => simp [lookL, Tr.Runs] at h
    | _ => simp [lookL, Tr.Runs] at h
theorem lookT_ok {E : Env} {t : TypeId} {ok : Bool} {m x y : SV U.Ty} (h : (lookT E t ok m x).Runs y) : lookD E t ok (toV U m) (toV U x) = some (toV U y) := by
  unfold lookT at h
  split at h
  · rename_i k e sz by' z0 kvs kd n hti hx
    simp only [runs_when] at h
    obtain ⟨hk, h⟩ := h
    rw [asInt_toV hx]
    simp only [toV, lookD, hti, hk, if_true]
    rcases lookL_ok h with ⟨h1, h2⟩ | ⟨v, h1, h2⟩
    · rw [h1]
      simp only
      split at h2
      · rename_i ei hei
        rw [hei]
        simp only
        split at h2
        · rename_i z hz
          simp only [Tr.Runs] at h2
          subst h2
          rw [hz]
          cases ok <;> simp [toV, toVs, toV_ofV]
        · simp [Tr.Runs] at h2
      · simp [Tr.Runs] at h2
    · rw [h1]
      simp only [Tr.Runs] at h2
      subst h2
      cases ok <;> simp [toV, toVs]
  · simp [Tr.Runs] at h

theorem litOf_toV (v : SV U.Ty) : toV U (litOf v) = toV U v := by cases v <;> rfl

theorem appendT_ok {E : Env} {k : Nat} {H H' : SHeap U} {t u : TypeId} {s x y : SV U.Ty} (h : (appendT E k H t u s x).Runs (y, H')) :
    appendD E k (toH U H) t u (toV U s) (toV U x) = some (toV U y, toH U H') := by
  unfold appendT at h
  unfold appendD
  split at h
  · rename_i e sz by' z0 hti
    rw [hti]
    simp only
    split at h
    · rename_i ei hei
      simp only [runs_when, runs_andThen] at h
      obtain ⟨⟨rfl, hpos, hz, hes⟩, ys, hys, h⟩ := h
      obtain ⟨e1, e2⟩ := elemsT_ok hys
      rw [hes] at e2
      simp only [hei, beq_self_eq_true, e1]
      rw [if_pos (by simp [hpos, e2, hz])]
      split at h
      · rename_i id n
        obtain ⟨t', xs, fl, h1, h2, h3, h4⟩ := rowAt_runs h
        split at h3
        · rename_i he
          subst he
          simp only [Tr.Runs, Bool.and_eq_true, decide_eq_true_eq, Prod.mk.injEq] at h3
          obtain ⟨⟨l1, l2⟩, rfl, rfl⟩ := h3
          subst h2
          simp only [toV, h4, List.length_map]
          simp only [toBox, hes, beq_self_eq_true, decide_true, Bool.and_self, if_true, l1, l2, Option.some.injEq, Prod.mk.injEq]
          refine ⟨by simp [toV], ?_⟩
          rw [toH_set]
          simp [toBox, hes]
        · simp [Tr.Runs] at h3
      · rename_i id off len tot
        obtain ⟨t', xs, fl, h1, h2, h3, h4⟩ := rowAt_runs h
        split at h3
        · rename_i he
          subst he
          simp only [Tr.Runs, Bool.and_eq_true, decide_eq_true_eq, Prod.mk.injEq] at h3
          obtain ⟨⟨l1, l2, l3, l4⟩, rfl, rfl⟩ := h3
          subst h2
          subst l1
          have hne : ¬ len = xs.length := by omega
          simp only [toV, h4]
          simp only [toBox, hes, beq_self_eq_true, decide_true, Bool.and_self, Bool.and_true, Bool.true_and, hne, decide_false, Bool.and_false, Bool.false_and, Bool.false_eq_true, if_false, l2, l3, l4, List.length_map, if_true, Option.some.injEq, Prod.mk.injEq, true_and]
          rw [toH_set]
          simp [toBox, hes, List.map_take, List.map_drop]
        · simp [Tr.Runs] at h3
      · simp only [Tr.Runs, Bool.and_eq_true, decide_eq_true_eq, Prod.mk.injEq] at h
        obtain ⟨⟨l1, l2⟩, rfl, rfl⟩ := h
        simp only [toV, List.length_map, l1, l2, decide_true, Bool.and_self, if_true, Option.some.injEq, Prod.mk.injEq, true_and]
        rw [toH_place]
        simp [toBox, newBox, hes]
      · rename_i t' xs
        split at h
        · rename_i he
          subst he
          simp only [Tr.Runs, Bool.and_eq_true, decide_eq_true_eq, Prod.mk.injEq] at h
          obtain ⟨⟨l1, l2⟩, h⟩ := h
          simp only [toV, List.length_map, hes, beq_self_eq_true, l1, l2, decide_true, Bool.and_self, if_true]
          rcases h with ⟨hem, rfl, rfl⟩ | ⟨hem, rfl, rfl⟩
          · simp [hem, toV, hes]
          · simp only [List.isEmpty_map, hem, Bool.false_eq_true, if_false, Option.some.injEq, Prod.mk.injEq]
            refine ⟨by simp [toV], ?_⟩
            rw [toH_place]
            simp [toBox, newBox, hes]
        · simp [Tr.Runs] at h
      · simp [Tr.Runs] at h
    · simp [Tr.Runs] at h
  · simp [Tr.Runs] at h

theorem convST_ok {E : Env} (hU : UnivOK U E) {k : Nat} {H H' : SHeap U} {dst : TypeId} {x y : SV U.Ty} (h : (convST E k H dst x).Runs (y, H')) : convS E k (toH U H) dst (toV U x) = some (toV U y, toH U H') := by
  unfold convST at h
  split at h
  · rename_i st e sz by' z0 hs hti
    simp only [runs_when, Tr.Runs, Prod.mk.injEq] at h
    obtain ⟨⟨h1, h2⟩, hok, rfl, rfl⟩ := h
    have key : ∀ l : List UInt8, (l.all fun b => (U.decS e (.si .u8 b.toNat)).isSome) = true → (l.filterMap fun b => U.decS e (.si .u8 b.toNat)).map (U.enc e) = l.map fun c => V.lit (.int .u8 c.toNat) := by
      intro l
      induction l with
      | nil => intro _; rfl
      | cons b l ih =>
        intro hl
        simp only [List.all_cons, Bool.and_eq_true] at hl
        cases hd : U.decS e (.si .u8 b.toNat) with
        | none => simp_all
        | some a =>
          have := hU.dec _ _ _ hd
          simp only [toV, retype, retype1] at this
          simp_all
    have hmap : (strBytes U e st).map (U.enc e) = bytesV st := key _ hok
    have hlen : (strBytes U e st).length = st.size := by
      have := congrArg List.length hmap
      rw [List.length_map] at this
      rw [this]
      simp only [bytesV, List.length_map]
      exact Array.length_toList
    rw [asStr_toV hs]
    simp only [convS, hti, h1, if_true, toV, hlen, Option.some.injEq, Prod.mk.injEq, true_and]
    rw [toH_place]
    simp [toBox, newBox, h2, hmap]
  · simp [Tr.Runs] at h

theorem scal_toV {x : SV U.Ty} {v : Value} (h : scal x = some v) : toV U x = .lit v := by
  unfold scal at h
  split at h <;> simp_all [toV]

theorem getsT_ok {E : Env} {L : Type} (hU : UnivOK U E) {t : Nat} {xs : List (U.Ty t)} {r : L} : ∀ {n i : Nat} {k : List Value → Tr U L}, (getsT xs i n k).Runs r → ∃ vs, ((xs.drop i).take n).map (U.enc t) = vs.map V.lit ∧ vs.length = n ∧ (k vs).Runs r := by
  intro n
  induction n with
  | zero => intro i k h; exact ⟨[], by simp, rfl, h⟩
  | succ n ih =>
    intro i k h
    simp only [getsT, Tr.Runs] at h
    obtain ⟨x, hx, h⟩ := h
    split at h
    · rename_i v hv
      obtain ⟨vs, h1, h2, h3⟩ := ih h
      obtain ⟨hi, hx'⟩ := List.getElem?_eq_some_iff.1 hx
      refine ⟨v :: vs, ?_, by simp [h2], h3⟩
      rw [List.drop_eq_getElem_cons hi, List.take_succ_cons, List.map_cons, List.map_cons, h1, hx', ← hU.encS, scal_toV hv]
    · simp [Tr.Runs] at h

theorem arrT_ok {E : Env} (hU : UnivOK U E) {t : TypeId} {x y : SV U.Ty} (h : (arrT E t x).Runs y) : arrA E t (toV U x) = some (toV U y) := by
  unfold arrT at h
  split at h
  · rename_i n e sz by' z0 t' xs hti
    simp only [runs_when] at h
    obtain ⟨⟨c1, c2, c3⟩, h⟩ := h
    obtain ⟨vs, h1, h2, h3⟩ := getsT_ok hU h
    simp only [Tr.Runs] at h3
    subst h3
    rw [List.drop_zero] at h1
    unfold arrA
    have hlen : n ≤ xs.length := by
      have := congrArg List.length h1
      simp only [List.length_map, List.length_take] at this
      omega
    have htk : (xs.map (U.enc t')).take n = vs.map V.lit := by rw [← List.map_take, h1]
    have hall : (vs.map V.lit).all isLitV = true := by simp [List.all_eq_true, isLitV]
    simp only [hti, toV, c1, c2, c3, htk, List.length_map, hlen, hall, and_self, if_true]
  · simp [Tr.Runs] at h

theorem optBoundS_ok {hi : Option (SV U.Ty)} {n m : Nat} (h : optBoundS hi n = some m) : optBound (hi.map (toV U)) n n = some m := by
  unfold optBoundS at h
  split at h
  · simpa [optBound] using h
  · simpa [optBound, boundD, toV] using h
  · cases h

theorem sliceAT_ok {E : Env} (hU : UnivOK U E) {H H' : SHeap U} {n e : Nat} {x y : SV U.Ty} {lo hi mx : Option (SV U.Ty)} (h : (sliceAT E H n e x lo hi mx).Runs (y, H')) :
    sliceA E (toH U H) n e (toV U x) (lo.map (toV U)) (hi.map (toV U)) (mx.map (toV U)) = some (toV U y, toH U H') := by
  unfold sliceAT at h
  split at h
  · rename_i id i off tot m hm
    split at h
    · rename_i e' k cs hb
      split at h
      · rename_i ys hys
        simp only [runs_when, Tr.Runs, Prod.mk.injEq] at h
        obtain ⟨⟨⟨rfl, rfl, rfl, c4, c5⟩, c6, c7, c8⟩, rfl, rfl⟩ := h
        obtain ⟨d1, d2⟩ := decAll_ok hU hys
        have hsc : ∀ c ∈ cs, ∃ v, toV U c = .lit v := fun c hc => by
          have := List.all_eq_true.1 c8 c hc
          obtain ⟨v, hv⟩ := Option.isSome_iff_exists.1 this
          exact ⟨v, scal_toV hv⟩
        have hre : (toVs U cs).map (retype (E.rows e)) = toVs U cs := by
          rw [toVs_map, List.map_map]
          apply List.map_congr_left
          intro c hc
          obtain ⟨v, hv⟩ := hsc c hc
          simp only [Function.comp, hv, retype, retype1]
        rw [hre] at d1
        have hall : (toVs U cs).all isLitV = true := by
          rw [toVs_map, List.all_eq_true]
          intro y hy
          obtain ⟨c, hc, rfl⟩ := List.mem_map.1 hy
          obtain ⟨v, hv⟩ := hsc c hc
          rw [hv]; rfl
        have hlen : (toVs U cs).length = n := by rw [toVs_map, List.length_map, c4]
        have hbx := boxAt_var hb
        unfold sliceA
        simp only [toV, Option.map_none, optBoundS_ok hm, hbx, newBox]
        rw [if_pos ⟨trivial, trivial, hlen, c5, c6, hall⟩]
        simp only [Option.some.injEq, Prod.mk.injEq, c7, List.map_take, d1, true_and]
        rw [toH_set]
        simp only [bump]
        apply List.ext_getElem?
        intro j
        rw [List.getElem?_modify, List.getElem?_set]
        by_cases hj : id = j
        · subst hj
          have hlt : id < H.length := (List.getElem?_eq_some_iff.1 hb).1
          rw [toH_get, hb]
          simp [toBox, newBox, toV, toH_length, hlt]
        · simp [hj]
      · simp [Tr.Runs] at h
    · simp [Tr.Runs] at h
  · simp [Tr.Runs] at h

theorem copyT_ok {E : Env} {H H' : SHeap U} {t u : TypeId} {d x y : SV U.Ty} (h : (copyT E H t u d x).Runs (y, H')) :
    copyD E (toH U H) t u (toV U d) (toV U x) = some (toV U y, toH U H') := by
  unfold copyT at h
  unfold copyD
  split at h
  · rename_i e sz by' z0 hti
    rw [hti]
    simp only
    split at h
    · rename_i ei hei
      simp only [runs_when, runs_andThen] at h
      obtain ⟨hes, ys, hys, h⟩ := h
      obtain ⟨e1, e2⟩ := elemsT_ok hys
      rw [hes] at e2
      simp only [hei, e1]
      split at h
      · rename_i id n
        obtain ⟨t', xs, fl, h1, h2, h3, h4⟩ := rowAt_runs h
        split at h3
        · rename_i he
          subst he
          simp only [runs_when, Tr.Runs, Prod.mk.injEq] at h3
          obtain ⟨hfl, rfl, rfl⟩ := h3
          subst h2
          simp only [toV, h4]
          simp only [toBox, hes, hfl, beq_self_eq_true, decide_true, Bool.and_self, e2, if_true, Option.some.injEq, Prod.mk.injEq, List.length_map]
          refine ⟨by simp [toV], ?_⟩
          rw [toH_set]
          simp [toBox, hes, hfl, List.map_take, List.map_drop]
        · simp [Tr.Runs] at h3
      · simp [Tr.Runs] at h
    · simp [Tr.Runs] at h
  · simp [Tr.Runs] at h

theorem lenAt_ok {L : Type} {H : SHeap U} {x : SV U.Ty} {k : Nat → Tr U L} {y : L} (h : (lenAt H x k).Runs y) : ∃ n, lenOf (toH U H) (toV U x) = some n ∧ (k n).Runs y := by
  unfold lenAt at h
  split at h
  · rename_i id n
    obtain ⟨t, xs, fl, h1, h2, h3, h4⟩ := rowAt_runs h
    exact ⟨n, by simp [toV, lenOf, h4], h3⟩
  · rename_i id off len tot
    obtain ⟨t, xs, fl, h1, h2, h3, h4⟩ := rowAt_runs h
    exact ⟨len, by simp [toV, lenOf, h4], h3⟩
  · split at h
    · rename_i n hn
      refine ⟨n, ?_, h⟩
      unfold lenT at hn
      split at hn <;> simp_all [toV, lenOf]
    · simp [Tr.Runs] at h

theorem lenAt_raw {L : Type} {H : SHeap U} {x : SV U.Ty} {k : Nat → Tr U L} {y : L} (h : (lenAt H x k).Runs y) : ∀ v, x ≠ .raw v := by
  rintro v rfl
  simp [lenAt, lenT, Tr.Runs] at h

theorem str_no {x : SV U.Ty} (hx : ∀ v, x ≠ .raw v) (h : isStrS x = false) : ∀ s, toV U x ≠ .lit (.string s) := by
  intro s hs
  unfold isStrS at h
  cases x with
  | raw v => exact hx v rfl
  | lit v => simp only [toV, V.lit.injEq] at hs; subst hs; simp [asStr] at h
  | ss b => simp [asStr] at h
  | _ => simp [toV] at hs

theorem str_yes {x : SV U.Ty} (h : isStrS x = true) : ∃ s, asStr x = some s ∧ toV U x = .lit (.string s) := by
  unfold isStrS at h
  cases hs : asStr x with
  | none => simp [hs] at h
  | some s => exact ⟨s, rfl, asStr_toV hs⟩

theorem lenFits_ok {E : Env} {t : TypeId} {x : SV U.Ty} (hx : ∀ v, x ≠ .raw v) : lenFits E t (toV U x) = lenFitsS E t x := by
  unfold lenFits lenFitsS
  by_cases hs : isStrS x = true
  · obtain ⟨s, _, h⟩ := str_yes hs
    rw [h, if_pos hs]
  · rw [if_neg hs]
    have := str_no hx (by simpa using hs)
    grind

theorem eszIsS_ok {E : Env} {H : SHeap U} {x : SV U.Ty} {n : Nat} {L : Type} {k : Nat → Tr U L} {y : L} (hl : (lenAt H x k).Runs y) (h : eszIsS E H x n = true) : eszIs (toH U H) (toV U x) n = true := by
  unfold eszIsS at h
  split at h
  · simp [toV, eszIs]
  · simpa [toV, eszIs] using h
  · simpa [toV, eszIs] using h
  · rename_i id m
    unfold lenAt at hl
    obtain ⟨t, xs, fl, h1, h2, h3, h4⟩ := rowAt_runs hl
    simp only [h1] at h
    simpa [toV, eszIs, h4, toBox] using h
  · rename_i id off len tot
    unfold lenAt at hl
    obtain ⟨t, xs, fl, h1, h2, h3, h4⟩ := rowAt_runs hl
    simp only [h1] at h
    simpa [toV, eszIs, h4, toBox] using h
  · cases h

theorem sliceFits_ok {E : Env} {H : SHeap U} {t : TypeId} {x : SV U.Ty} {L : Type} {k : Nat → Tr U L} {y : L} (hl : (lenAt H x k).Runs y) (h : sliceFitsS E H t x = true) : sliceFits E (toH U H) t (toV U x) = true := by
  have hx := lenAt_raw hl
  unfold sliceFitsS at h
  unfold sliceFits
  split at h
  · rename_i hs
    obtain ⟨s, _, he⟩ := str_yes hs
    rw [he]
    exact h
  · rename_i hs
    have hno := str_no hx (by simpa using hs)
    split
    · simp_all
    · split at h
      · rename_i e _ _ _ hti
        split at h
        · rename_i ei hei
          simp only [hti, hei]
          exact eszIsS_ok hl h
        · cases h
      · cases h

theorem boundT_ok {L : Type} {x : Option (SV U.Ty)} {hi d : Nat} {k : Nat → Tr U L} {y : L} (h : (boundT x hi d k).Runs y) : ∃ n, optBound (x.map (toV U)) hi d = some n ∧ (k n).Runs y := by
  unfold boundT at h
  split at h
  · exact ⟨d, rfl, h⟩
  · rename_i v
    split at h
    · rename_i kk n hn
      simp only [Tr.Runs, decide_eq_true_eq] at h
      refine ⟨n.toNat, ?_, h.2⟩
      simp [optBound, asInt_toV hn, boundD, h.1]
    · simp [Tr.Runs] at h

theorem sliceT_ok {E : Env} {H H' : SHeap U} {t : TypeId} {x y : SV U.Ty} {lo hi mx : Option (SV U.Ty)} (h : (sliceT E H t x lo hi mx).Runs (y, H')) :
    sliceD E (toH U H) t (toV U x) (lo.map (toV U)) (hi.map (toV U)) (mx.map (toV U)) = some (toV U y, toH U H') := by
  unfold sliceT at h
  unfold sliceD
  split at h
  · rename_i hfit
    have hl := h
    have hraw := lenAt_raw hl
    rw [if_pos (sliceFits_ok hl hfit)]
    obtain ⟨n, hn, ha⟩ := lenAt_ok hl
    rw [hn]
    obtain ⟨hh, eh, hb⟩ := boundT_ok ha
    obtain ⟨l, el, hc⟩ := boundT_ok hb
    simp only [eh, el]
    clear h ha hb
    revert hc
    intro h
    split at h
    · rename_i m
      split at h
      · simp [Tr.Runs] at h
      · rename_i xh
        obtain ⟨kk, ek, hd⟩ := boundT_ok h
        clear h
        revert hd
        intro h
        simp only [Tr.Runs, beq_iff_eq] at h
        obtain ⟨rfl, h⟩ := h
        simp only [Option.map_some, optBound] at ek
        simp only [Option.map_some, ek]
        split at h
        · rename_i e xs
          simp only [Tr.Runs, Prod.mk.injEq] at h
          obtain ⟨rfl, rfl⟩ := h
          simp [toV, elemsOf, List.map_take, List.map_drop]
        · rename_i e xs
          simp only [Tr.Runs, Prod.mk.injEq] at h
          obtain ⟨rfl, rfl⟩ := h
          simp [toV, elemsOf, List.map_take, List.map_drop]
        · rename_i id n'
          obtain ⟨e, xs, fl, h1, h2, h3, h4⟩ := rowAt_runs h
          simp only [Tr.Runs, Prod.mk.injEq] at h3
          obtain ⟨rfl, rfl⟩ := h3
          subst h2
          have hg : (toH U H).getD id default = toBox U (.row e xs fl) := by simp [List.getD, toH_get, h1]
          have hel : elemsOf (toH U H) (.lsl id 0 xs.length xs.length) = some (xs.map (U.enc e)) := by
            simp only [elemsOf, h4]
            simp only [toBox, Nat.zero_add, Nat.le_refl, decide_true, Bool.and_self, if_true, List.drop_zero]
            rw [List.take_of_length_le (by simp)]
          simp only [toV, hel, if_true, hg]
          simp only [toBox, Option.some.injEq, Prod.mk.injEq]
          refine ⟨by simp [List.map_take, List.map_drop], ?_⟩
          rw [bumpS_ok H [id] (by intro i hi; simp at hi; subst hi; exact ⟨_, _, _, h1⟩)]
        · simp [Tr.Runs] at h
    · simp only [Option.map_none]
      split at h
      · simp only [Tr.Runs, Prod.mk.injEq] at h
        obtain ⟨rfl, rfl⟩ := h
        simp [toV]
      · simp only [Tr.Runs, Prod.mk.injEq] at h
        obtain ⟨rfl, rfl⟩ := h
        simp [toV, List.map_take, List.map_drop]
      · simp only [Tr.Runs, Prod.mk.injEq] at h
        obtain ⟨rfl, rfl⟩ := h
        simp [toV, List.map_take, List.map_drop]
      · rename_i id n'
        have hnn : n = n' := by
          unfold lenAt at hl
          obtain ⟨e, xs, fl, h1, h2, h3, h4⟩ := rowAt_runs hl
          simpa [toV, lenOf, h4] using hn.symm
        subst hnn
        split at h
        · simp only [Tr.Runs, Prod.mk.injEq] at h
          obtain ⟨rfl, rfl⟩ := h
          simp only [Option.map_none, optBound, Option.some.injEq] at eh el
          subst eh
          subst el
          simp [toV]
        · simp only [Tr.Runs, Prod.mk.injEq] at h
          obtain ⟨rfl, rfl⟩ := h
          simp [toV]
      · simp only [Tr.Runs, Prod.mk.injEq] at h
        obtain ⟨rfl, rfl⟩ := h
        simp [toV]
      · split at h
        · rename_i s hs
          simp only [Tr.Runs, Prod.mk.injEq] at h
          obtain ⟨rfl, rfl⟩ := h
          simp [asStr_toV hs, toV]
        · simp [Tr.Runs] at h
  · simp [Tr.Runs] at h

/-! ### operations -/

/-- What the functions that are called are said to come to. -/
def MdlOK (U : Univ) (M : Mdl U) (call : CallF) : Prop :=
  ∀ g as H v H', (M g as H).Runs (v, H') → call g (toVs U as) (toH U H) = some (toV U v, toH U H')

theorem retT_ok {H H' : SHeap U} {T : Tr U (SV U.Ty)} {y : SV U.Ty} (h : (retT H T).Runs (y, H')) : T.Runs y ∧ H' = H := by
  simp only [retT, runs_andThen, Tr.Runs, Prod.mk.injEq] at h
  grind

theorem callT_ok {E : Env} {M : Mdl U} {call : CallF} (hU : UnivOK U E) (hM : MdlOK U M call) {k : Nat} {H H' : SHeap U} {s : List (SV U.Ty)} {c : Call} {o : Oper} {y : SV U.Ty} (hop : o.op = .call c) (h : (callT E M k H s c).Runs (y, H')) :
    opD call E k (toH U H) (toVs U s) o = some (toV U y, toH U H') := by
  unfold opD
  rw [hop]
  simp only
  unfold callT at h
  have hargs : evs E (toVs U s) c.args = toVs U (c.args.toList.map (evS E s)) := evs_toV E s c.args.toList
  split at h
  · rename_i b hb
    rw [hb]
    simp only
    rw [hargs]
    unfold builtinD
    split at h
    · rename_i x t he1 he2
      rw [he1, he2]
      split at h
      · rename_i hf
        have hraw := lenAt_raw h
        obtain ⟨n, hn, h⟩ := lenAt_ok h
        simp only [Tr.Runs, Prod.mk.injEq] at h
        obtain ⟨rfl, rfl⟩ := h
        simp only [toVs, lenFits_ok hraw, hf, if_true, hn, Option.map_some, toV]
        rfl
      · simp [Tr.Runs] at h
    · rename_i a x t u he1 he2
      rw [he1, he2]
      simp only [toVs]
      exact appendT_ok h
    · rename_i a x t u he1 he2
      rw [he1, he2]
      simp only [toVs]
      exact copyT_ok h
    · obtain ⟨h1, rfl⟩ := retT_ok h
      simp only [minmaxT_ok h1, Option.map_some]
    · obtain ⟨h1, rfl⟩ := retT_ok h
      simp only [minmaxT_ok h1, Option.map_some]
    · simp [Tr.Runs] at h
  · rename_i f hf
    rw [hf]
    simp only
    rw [ev_toV]
    split at h
    · rename_i g first caps hg
      rw [hg]
      simp only [toV]
      have hall : toVs U first ++ evs E (toVs U s) c.args ++ toVs U caps = toVs U (first ++ c.args.toList.map (evS E s) ++ caps) := by
        rw [hargs]; simp only [toVs_map, List.map_append]
      rw [hall]
      exact hM _ _ _ _ _ h
    · simp [Tr.Runs] at h
  · simp [Tr.Runs] at h

theorem parts_toV {E : Env} {s : List (SV U.Ty)} (ps : List (Nat × Operand)) : (ps.map fun (i, x) => (i, ev E (toVs U s) x)) = partsV (ps.map fun (i, x) => (i, evS E s x)) := by
  simp [partsV, ev_toV]

theorem optEv {E : Env} {s : List (SV U.Ty)} (x : Option Operand) : x.map (ev E (toVs U s)) = (x.map (evS E s)).map (toV U) := by
  cases x <;> simp [ev_toV]

theorem opT_ok {E : Env} {M : Mdl U} {call : CallF} (hU : UnivOK U E) (hM : MdlOK U M call) {k : Nat} {H H' : SHeap U} {s : List (SV U.Ty)} {o : Oper} {y : SV U.Ty} (h : (opT E M k H s o).Runs (y, H')) :
    opD call E k (toH U H) (toVs U s) o = some (toV U y, toH U H') := by
  unfold opT at h
  split at h
  · rename_i x hop
    simp only [Tr.Runs, Prod.mk.injEq] at h
    obtain ⟨rfl, rfl⟩ := h
    unfold opD
    rw [hop]
    simp only [ev_toV]
  · rename_i hop
    unfold opD
    rw [hop]
    simp only
    split at h
    · rename_i e _ _ _ hti
      simp only [runs_when, Tr.Runs, Prod.mk.injEq] at h
      obtain ⟨hes, rfl, rfl⟩ := h
      simp only [hti, toV, toH_place, toBox, newBox, hes]
      rfl
    · simp [Tr.Runs] at h
  · rename_i x hne hop
    simp only [Tr.Runs, Prod.mk.injEq] at h
    obtain ⟨rfl, rfl⟩ := h
    unfold opD
    rw [hop]
    split <;> simp_all [ev_toV]
  · rename_i c a b hop
    unfold opD
    rw [hop]
    simp only [ev_toV]
    split at h
    · rename_i hc
      simp only [Tr.Runs, Prod.mk.injEq] at h
      obtain ⟨rfl, rfl⟩ := h
      rw [hc]
      simp [toV]
    · rename_i hc
      simp only [Tr.Runs, Prod.mk.injEq] at h
      obtain ⟨rfl, rfl⟩ := h
      rw [hc]
      simp [toV]
    · rename_i t hc
      rw [hc]
      simp only [toV]
      split at h
      · rename_i x' y' hx hy
        simp only [Tr.Runs, Prod.mk.injEq] at h
        obtain ⟨rfl, rfl⟩ := h
        rw [asBool_toV hx, asBool_toV hy]
        cases t <;> simp [toV]
      · simp only [Tr.Runs, Prod.mk.injEq] at h
        grind
    · simp [Tr.Runs] at h
  · rename_i t hop
    unfold opD
    rw [hop]
    simp only
    split at h
    · rename_i i hi
      simp only [hi]
      split at h
      · rename_i z hz
        simp only [runs_when, Tr.Runs, Prod.mk.injEq] at h
        obtain ⟨hc, rfl, rfl⟩ := h
        simp only [hz, hc, and_self, if_true, toV, toH_place, toBox, toV_ofV]
      · simp [Tr.Runs] at h
    · simp [Tr.Runs] at h
  · rename_i t x hop
    unfold opD
    rw [hop]
    simp only [ev_toV]
    split at h
    · rename_i i hi
      simp only [runs_when, Tr.Runs, Prod.mk.injEq] at h
      obtain ⟨⟨h1, h2⟩, rfl, rfl⟩ := h
      simp only [hi, cells_toV h2, length_toVs, h1, okS_okV h2, and_self, if_true, toV, toH_place, toBox]
    · simp [Tr.Runs] at h
  · rename_i t ps hop
    obtain ⟨h1, rfl⟩ := retT_ok h
    rw [runs_opt] at h1
    unfold opD
    rw [hop]
    simp only [parts_toV, buildT_ok h1, Option.map_some]
  · rename_i t n ps hop
    unfold opD
    rw [hop]
    simp only [parts_toV]
    exact buildSliceT_ok hU h
  · rename_i t a hop
    obtain ⟨h1, rfl⟩ := retT_ok h
    unfold opD
    rw [hop]
    simp only [ev_toV, loadT_ok hU h1, Option.map_some]
  · rename_i t a v hop
    simp only [runs_andThen, Tr.Runs, Prod.mk.injEq] at h
    obtain ⟨H1, h1, rfl, rfl⟩ := h
    unfold opD
    rw [hop]
    simp only [ev_toV, storeT_ok hU h1, Option.map_some]
    rfl
  · rename_i x hop
    unfold opD
    rw [hop]
    simp only [ev_toV]
    split at h
    · rename_i hx
      simp only [Tr.Runs, Prod.mk.injEq] at h
      obtain ⟨rfl, rfl⟩ := h
      simp [hx, toV, isNilV]
    · rename_i hx
      simp only [Tr.Runs, Prod.mk.injEq] at h
      obtain ⟨rfl, rfl⟩ := h
      simp [hx, toV, isNilV]
    · rename_i hx
      simp only [Tr.Runs, Prod.mk.injEq] at h
      obtain ⟨rfl, rfl⟩ := h
      simp [hx, toV, isNilV]
    · rename_i hx
      simp only [Tr.Runs, Prod.mk.injEq] at h
      obtain ⟨rfl, rfl⟩ := h
      simp [hx, toV, isNilV]
    · simp [Tr.Runs] at h
  · rename_i op t x z _ hop
    obtain ⟨h1, rfl⟩ := retT_ok h
    rw [runs_andThen] at h1
    obtain ⟨v, h1, h2⟩ := h1
    have hv : ∀ (c : Bool) y, (Tr.leaf (if c = true then litOf v else v) : Tr U (SV U.Ty)).Runs y → toV U y = toV U v := fun c y hy => by
      simp only [Tr.Runs] at hy
      subst hy
      split
      · exact litOf_toV v
      · rfl
    unfold opD
    rw [hop]
    simp only [ev_toV, binT_ok h1, Option.map_some, hv _ _ h2]
  · rename_i op _ x hop
    obtain ⟨h1, rfl⟩ := retT_ok h
    unfold opD
    rw [hop]
    simp only [ev_toV, unT_ok h1, Option.map_some]
  · rename_i src dst x hop
    unfold opD
    rw [hop]
    simp only [ev_toV]
    split at h
    · rename_i hb
      rw [if_pos hb]
      exact convST_ok hU h
    · rename_i hb
      rw [if_neg hb]
      obtain ⟨h1, rfl⟩ := retT_ok h
      simp only [convT_ok h1]
  · rename_i t l c hop
    unfold opD
    rw [hop]
    simp only [ev_toV]
    split at h
    · rename_i e _ _ _ hti
      simp only [hti]
      split at h
      · rename_i n _ m _ ei hn hm hei
        obtain ⟨k1, hn'⟩ := okInt_toV hn
        obtain ⟨k2, hm'⟩ := okInt_toV hm
        simp only [hn', hm', hei]
        split at h
        · rename_i z hz
          simp only [hz]
          split at h
          · rename_i y0 hy0
            simp only [runs_when, Tr.Runs, decide_eq_true_eq, Prod.mk.injEq] at h
            obtain ⟨⟨c1, c2, c3, c4⟩, ⟨c5, c6, c7, c8⟩, rfl, rfl⟩ := h
            have hd := hU.dec _ _ _ hy0
            rw [toV_ofV] at hd
            rw [if_pos ⟨c5, c6, c7, c8, c1, c2, c3⟩]
            simp only [toV, toH_place, toBox, newBox, c4, hd, List.map_replicate, List.length_replicate]
            rfl
          · simp [Tr.Runs] at h
        · simp [Tr.Runs] at h
      · simp [Tr.Runs] at h
    · simp [Tr.Runs] at h
  · rename_i t x lo hi mx hop
    unfold opD
    rw [hop]
    simp only [ev_toV, optEv]
    split at h
    · rename_i n e sz by' z0 hti
      rw [hti]
      exact sliceAT_ok hU h
    · rename_i hna
      split
      · grind
      · exact sliceT_ok h
  · rename_i t x hop
    obtain ⟨h1, rfl⟩ := retT_ok h
    unfold opD
    rw [hop]
    simp only [ev_toV, arrT_ok hU h1, Option.map_some]
  · rename_i t x f hop
    obtain ⟨h1, rfl⟩ := retT_ok h
    rw [runs_opt] at h1
    unfold opD
    rw [hop]
    simp only [ev_toV, fieldAddrT_ok h1, Option.map_some]
  · rename_i t x f hop
    obtain ⟨h1, rfl⟩ := retT_ok h
    rw [runs_opt] at h1
    unfold opD
    rw [hop]
    simp only [ev_toV, fieldT_ok h1, Option.map_some]
  · rename_i t x i hop
    obtain ⟨h1, rfl⟩ := retT_ok h
    unfold opD
    rw [hop]
    simp only [ev_toV, indexAddrT_ok h1, Option.map_some]
  · rename_i t x i hop
    obtain ⟨h1, rfl⟩ := retT_ok h
    unfold opD
    rw [hop]
    simp only [ev_toV, indexT_ok h1, Option.map_some]
  · rename_i x i hop
    unfold opD
    rw [hop]
    simp only [ev_toV]
    split at h
    · rename_i vs hv
      obtain ⟨h1, rfl⟩ := retT_ok h
      rw [runs_opt] at h1
      simp [hv, toV, toVs_map, h1]
    · simp [Tr.Runs] at h
  · rename_i t m x ok hop
    obtain ⟨h1, rfl⟩ := retT_ok h
    unfold opD
    rw [hop]
    simp only [ev_toV, lookH_of (lookT_ok h1), Option.map_some]
  · rename_i f first caps hop
    simp only [Tr.Runs, Prod.mk.injEq] at h
    obtain ⟨rfl, rfl⟩ := h
    unfold opD
    rw [hop]
    simp only [toV, evs, evs_toV]
  · rename_i c hop
    exact callT_ok hU hM hop h
  · simp [Tr.Runs] at h

/-! ### regions -/

theorem stepT_ok {E : Env} {M : Mdl U} {call : CallF} (hU : UnivOK U E) (hM : MdlOK U M call) {ops : Array Oper} {k i : Nat} {st st' : SSt U} (h : (stepT E M ops k i st).Runs st') :
    stepAt call E ops k i (toSt U st) = some (toSt U st') := by
  unfold stepT at h
  unfold stepAt
  split at h
  · rename_i ho
    simp only [Tr.Runs] at h
    subst h
    rw [ho]
  · rename_i o ho
    rw [ho]
    simp only at h ⊢
    have run : ∀ (q : SSt U), ((opT E M k q.H q.s o).andThen fun r => Tr.leaf (⟨setS q.s o.dst r.1, r.2⟩ : SSt U)).Runs st' → ∃ v H1, opD call E k (toH U q.H) (toVs U q.s) o = some (v, H1) ∧ (⟨setSlot (toVs U q.s) o.dst v, H1⟩ : St) = toSt U st' := by
      intro q hq
      simp only [runs_andThen, Tr.Runs] at hq
      obtain ⟨⟨v, H1⟩, h1, rfl⟩ := hq
      exact ⟨_, _, opT_ok hU hM h1, by simp only [toSt, set_toV]⟩
    have skip : ∀ (q : SSt U), (Tr.leaf (⟨setS q.s o.dst .no, q.H⟩ : SSt U) : Tr U (SSt U)).Runs st' → (⟨setSlot (toVs U q.s) o.dst vundef, toH U q.H⟩ : St) = toSt U st' := by
      intro q hq
      simp only [Tr.Runs] at hq
      subst hq
      simp only [toSt, set_toV]
      rfl
    unfold actD
    cases hg : o.guard with
    | none =>
      simp only [hg] at h
      obtain ⟨v, H1, h1, h2⟩ := run st h
      simp only [toSt, h1]
      rw [h2]
      rfl
    | some jw =>
      obtain ⟨j, want⟩ := jw
      simp only [hg] at h
      split at h
      · simp [Tr.Runs] at h
      · rename_i d hd
        simp only [hd]
        rw [show (toSt U st).s.getD d .und = toV U (st.s.getD d .und) from toVs_getD st.s d]
        have fin : ∀ (b : Bool) (q : SSt U), toSt U q = toSt U st → toV U (st.s.getD d .und) = .lit (.bool b) →
            (if b == want then ((opT E M k q.H q.s o).andThen fun r => Tr.leaf (⟨setS q.s o.dst r.1, r.2⟩ : SSt U)) else (Tr.leaf (⟨setS q.s o.dst .no, q.H⟩ : SSt U) : Tr U (SSt U))).Runs st' →
            (match (match guardD (toV U (st.s.getD d .und)) want with
              | none => none
              | some false => some (vundef, (toSt U st).H)
              | some true => opD call E k (toSt U st).H (toSt U st).s o) with
            | some (v, H) => some (⟨setSlot (toSt U st).s o.dst v, H⟩ : St)
            | none => none) = some (toSt U st') := by
          intro b q hq hv hr
          rw [hv, ← hq]
          simp only [guardD]
          split at hr
          · rename_i hb
            obtain ⟨v, H1, h1, h2⟩ := run q hr
            rw [hb]
            simp only [toSt, h1]
            exact congrArg some h2
          · rename_i hb
            have := skip q hr
            rw [show (b == want) = false by simpa using hb]
            simp only [toSt]
            exact congrArg some this
        split at h
        · rename_i hs
          rw [hs]
          have := skip st h
          simp only [toV, guardD, toSt]
          exact congrArg some this
        · rename_i hs
          refine fin true st rfl (by rw [hs]; rfl) ?_
          cases want <;> exact h
        · rename_i hs
          refine fin false st rfl (by rw [hs]; rfl) ?_
          cases want <;> exact h
        · rename_i b hs
          have hsame : ∀ b', b = b' → toSt U (⟨st.s.set d (.lit (.bool b')), st.H⟩ : SSt U) = toSt U st := by
            rintro b' rfl
            simp only [toSt, St.mk.injEq, and_true]
            rw [toVs_map, toVs_map, List.map_set]
            apply List.ext_getElem?
            intro n
            rw [List.getElem?_set]
            split
            · rename_i hdn
              subst hdn
              split
              · rename_i hlt
                simp only [List.length_map] at hlt
                have : st.s.getD d .und = st.s[d] := by simp [List.getD, hlt]
                rw [this] at hs
                simp [hlt, hs, toV]
              simp_all
            · rfl
          simp only [Tr.Runs] at h
          rcases h with ⟨rfl, h⟩ | ⟨rfl, h⟩
          · refine fin true _ (hsame true rfl) (by rw [hs]; rfl) ?_
            cases want <;> exact h
          · refine fin false _ (hsame false rfl) (by rw [hs]; rfl) ?_
            cases want <;> exact h
        · simp [Tr.Runs] at h

theorem opsT_ok {E : Env} {M : Mdl U} {call : CallF} (hU : UnivOK U E) (hM : MdlOK U M call) {ops : Array Oper} : ∀ {is : List Nat} {st st' : SSt U}, (opsT E M ops is st).Runs st' → opsD call E ops is (toSt U st) = some (toSt U st') := by
  intro is
  induction is with
  | nil => intro st st' h; simp only [opsT, Tr.Runs] at h; subst h; rfl
  | cons i is ih =>
    intro st st' h
    simp only [opsT, runs_andThen] at h
    obtain ⟨st1, h1, h2⟩ := h
    have := stepT_ok hU hM h1
    simp only [opsD, stepD]
    rw [show (toSt U st).H.length = st.H.length from toH_length st.H, this]
    exact ih h2

theorem refsO_toV {E : Env} {s : List (SV U.Ty)} {o : Oper} : refsO E (toVs U s) o = refsOS E s o := by
  unfold refsO refsOS
  congr 1
  funext x
  rw [ev_toV, refsV_toV]

theorem lateAtS_ok {H : SHeap U} {a : SV U.Ty} {k : Nat} (h : lateAtS H a k = true) : lateAt (toH U H) (toV U a) k = true := by
  unfold lateAtS at h
  split at h
  · rename_i id i off tot
    simp only [Bool.and_eq_true, beq_iff_eq] at h
    obtain ⟨h1, h2⟩ := h
    split at h2
    · rename_i e n x hb
      simp only [beq_iff_eq] at h2
      simp only [toV, lateAt, h1, beq_self_eq_true, Bool.true_and, boxAt, toH_get]
      rw [← h1, hb]
      simp [toBox, newBox, h2]
    · cases h2
  · rename_i id n
    simp only [Bool.and_eq_true, beq_iff_eq] at h
    obtain ⟨h1, h2⟩ := h
    split at h2
    · rename_i t xs fl hb
      simp only [toV, lateAt, h1, beq_self_eq_true, Bool.true_and, toH_get]
      rw [← h1, hb]
      simp [toBox]
    · cases h2
  · cases h

theorem tgtNoS_ok {base k : Nat} {s0 : List (SV U.Ty)} {t : Nat ⊕ Nat} (h : tgtNoS base s0 t = some k) : tgtNo base (toVs U s0) t = some k := by
  cases t with
  | inl j => exact h
  | inr d =>
    unfold tgtNoS at h
    unfold tgtNo
    have : (toVs U s0).getD d .und = toV U (s0.getD d .und) := by
      rw [toVs_map]
      simp only [List.getD, List.getElem?_map]
      cases s0[d]? <;> rfl
    simp only at h ⊢
    rw [this]
    split at h
    · rename_i he
      rw [he]
      exact h
    · rename_i he
      rw [he]
      exact h
    · cases h

theorem lateT_ok {E : Env} {ms : List Nat} {lt : List (Nat × (Nat ⊕ Nat))} {s0 : List (SV U.Ty)} {base i : Nat} {s : List (SV U.Ty)} {H : SHeap U} {o : Oper} (h : lateT E ms lt s0 base i s H o = true) : lateD E ms lt (toVs U s0) base i (toVs U s) (toH U H) o = true := by
  unfold lateT at h
  unfold lateD
  rw [List.all_eq_true] at h ⊢
  intro p hp
  have h := h p hp
  cases ht : tgtNoS base s0 p.2 with
  | none => rw [ht] at h; cases h
  | some k =>
    rw [ht] at h
    simp only at h
    rw [tgtNoS_ok ht]
    simp only
    have : addrOf E (toVs U s) o = toV U (addrOfS E s o) := by
      unfold addrOf addrOfS
      cases writesAt o <;> first | exact ev_toV .. | rfl
    rw [this, refsO_toV]
    split
    · rename_i he
      rw [if_pos he] at h
      exact lateAtS_ok h
    simp_all

theorem isFn_toV (v : SV U.Ty) : isFnV (toV U v) = isFnS v := by cases v <;> rfl
theorem quietT_ok {E : Env} {s : List (SV U.Ty)} {o : Oper} (h : quietT E s o = true) : quietAt E (toVs U s) o = true := by
  unfold quietT at h
  unfold quietAt
  cases hop : o.op with
  | call c =>
    simp only [hop] at h
    simp only
    cases hcal : c.callee with
    | value f =>
      cases f with
      | tmp t =>
        simp only [hcal] at h
        simp only
        rw [toVs_getD]
        cases hq : (E.quiet && o.type != 0) with
        | false => rfl
        | true =>
          simp only [hq, Bool.not_true, Bool.false_or] at h ⊢
          cases hv : s.getD t .und with
          | fn g a b =>
            rw [hv] at h
            simp only [quietS, Bool.and_eq_true] at h
            simp only [toV, quietV, Bool.and_eq_true]
            refine ⟨h.1, ?_⟩
            rw [toVs_map, toVs_map, ← List.map_append, List.all_map]
            rw [List.all_eq_true] at h ⊢
            intro x hx
            simp only [Function.comp, isFn_toV]
            exact h.2 x hx
          | _ => rw [hv] at h; simp [quietS] at h
      | _ => rfl
    | _ => rfl
  | _ => rfl

theorem ldNoS_ok {E : Env} {ops : Array Oper} {base n : Nat} {s0 : List (SV U.Ty)} {o : Oper} (h : ldNoS E ops base s0 o = some n) : ldNo E ops base (toVs U s0) o = some n := by
  unfold ldNoS at h
  unfold ldNo
  split at h
  · rename_i t d hop
    rw [hop]
    simp only
    cases hr : rootOf E ops 12 d with
    | none => rw [hr] at h; cases h
    | some r => rw [hr] at h; exact tgtNoS_ok h
  · cases h

theorem appLdS_ok {E : Env} {ops : Array Oper} {ms : List Nat} {lt : List (Nat × (Nat ⊕ Nat))} {s0 : List (SV U.Ty)} {base i : Nat} {s : List (SV U.Ty)} {o : Oper} (h : appLdS E ops ms lt s0 base i s o = true) :
    appLd E ops ms lt (toVs U s0) base i (toVs U s) o = true := by
  unfold appLdS at h
  unfold appLd
  rw [List.all_eq_true] at h ⊢
  intro j hj
  have h := h j hj
  cases ho : ops[j]? with
  | none => rfl
  | some oj =>
    rw [ho] at h
    simp only [Bool.or_eq_true, Bool.and_eq_true] at h ⊢
    rcases h with h | ⟨h1, h2⟩
    · exact .inl h
    · refine .inr ⟨?_, ?_⟩
      · rcases h1 with h1 | h1 | h1
        · exact .inl h1
        · exact .inr (.inl h1)
        · refine .inr (.inr ?_)
          have ha : addrOf E (toVs U s) o = toV U (addrOfS E s o) := by
            unfold addrOf addrOfS
            cases writesAt o <;> first | exact ev_toV .. | rfl
          split at h1
          · rename_i n id q hn hq
            rw [ldNoS_ok hn, ha, hq]
            simpa [toV] using h1
          · cases h1
      · rcases h2 with h2 | h2 | h2
        · exact .inl h2
        · exact .inr (.inl h2)
        · refine .inr (.inr ?_)
          split at h2
          · rename_i n hn
            rw [ldNoS_ok hn, refsO_toV]
            exact h2
          · cases h2

theorem alOKS_ok {ops : Array Oper} {base : Nat} {H : SHeap U} (h : alOKS ops base H = true) : alOK ops base (toH U H) = true := by
  unfold alOKS at h
  unfold alOK
  rw [List.all_eq_true] at h ⊢
  intro j hj
  have h := h j hj
  cases ho : ops[j]? with
  | none => rfl
  | some o =>
    rw [ho] at h
    simp only [Bool.or_eq_true, Bool.not_eq_true'] at h ⊢
    rcases h with h | h
    · exact .inl h
    · refine .inr ?_
      rw [show (toH U H)[base + j]? = (H[base + j]?).map (toBox U) from toH_get _ _]
      cases hb : H[base + j]? with
      | none => rw [hb] at h; cases h
      | some b =>
        rw [hb] at h
        cases b <;> simp_all [noRowS, toBox, deadBox, newBox]

theorem capT_ok {E : Env} {ops : Array Oper} {base m : Nat} {H : SHeap U} {o : Oper} (h : (!capC E o || (decide (base + m ≤ H.length) && (!rowC E o || alOKS ops base H))) = true) :
    (!capC E o || (decide (base + m ≤ H.length) && (!rowC E o || alOK ops base (toH U H)))) = true := by
  simp only [Bool.or_eq_true, Bool.and_eq_true] at h ⊢
  rcases h with h | ⟨h1, h | h⟩
  · exact .inl h
  · exact .inr ⟨h1, .inl h⟩
  · exact .inr ⟨h1, .inr (alOKS_ok h)⟩

theorem stepRT_ok {E : Env} {M : Mdl U} {call : CallF} (hU : UnivOK U E) (hM : MdlOK U M call) {ops : Array Oper} {ms : List Nat} {lt : List (Nat × (Nat ⊕ Nat))} {s0 : List (SV U.Ty)} {base m i : Nat} {st st' : SSt U} (h : (stepRT E M ops ms lt s0 base m i st).Runs st') :
    stepR call E ops ms lt (toVs U s0) base m i (toSt U st) = some (toSt U st') := by
  unfold stepRT at h
  unfold stepR
  split at h
  · rename_i ho
    simp only [Tr.Runs] at h
    subst h
    rw [ho]
  · rename_i o ho
    rw [ho]
    simp only [runs_when] at h ⊢
    obtain ⟨h1, h1', h⟩ := h
    rw [Bool.and_eq_true, Bool.and_eq_true, Bool.and_eq_true] at h1'
    obtain ⟨⟨⟨h0, h0a⟩, h1a⟩, h1b⟩ := h1'
    have h1' := And.intro h1a h1b
    rw [show quietAt E (toSt U st).s o = true from quietT_ok h0, show appLd E ops ms lt (toVs U s0) base i (toSt U st).s o = true from appLdS_ok h0a, Bool.and_true, Bool.and_true]
    rw [show refsO E (toSt U st).s o = refsOS E st.s o from refsO_toV, show (toSt U st).H.length = st.H.length from toH_length st.H, if_pos (by rw [h1, Bool.true_and, Bool.and_eq_true]; exact ⟨lateT_ok h1'.1, capT_ok h1'.2⟩)]
    split at h
    · rename_i hc
      rw [if_pos hc]
      rw [show (toSt U st).H[base + i]? = (st.H[base + i]?).map (toBox U) from toH_get _ _]
      split at h
      · rename_i b hb
        rw [hb]
        split at h
        · rename_i hd
          have : b = .dead := by cases b <;> simp_all [isDead]
          subst this
          simp only [Option.map_some, toBox, deadBox, Bool.false_eq_true, if_false]
          exact stepT_ok hU hM h
        · simp [Tr.Runs] at h
      · simp [Tr.Runs] at h
    · rename_i hc
      rw [if_neg hc]
      exact stepT_ok hU hM h

theorem stepsRT_ok {E : Env} {M : Mdl U} {call : CallF} (hU : UnivOK U E) (hM : MdlOK U M call) {ops : Array Oper} {ms : List Nat} {lt : List (Nat × (Nat ⊕ Nat))} {s0 : List (SV U.Ty)} {base m : Nat} : ∀ {is : List Nat} {st st' : SSt U}, (stepsRT E M ops ms lt s0 base m is st).Runs st' →
    stepsR call E ops ms lt (toVs U s0) base m is (toSt U st) = some (toSt U st') := by
  intro is
  induction is with
  | nil => intro st st' h; simp only [stepsRT, Tr.Runs] at h; subst h; rfl
  | cons i is ih =>
    intro st st' h
    simp only [stepsRT, runs_andThen] at h
    obtain ⟨st1, h1, h2⟩ := h
    simp only [stepsR, stepRT_ok hU hM h1]
    exact ih h2

theorem drawT_ok {E : Env} {M : Mdl U} {call : CallF} (hU : UnivOK U E) (hM : MdlOK U M call) {ops : Array Oper} {st st' : SSt U} (h : (drawT E M ops st).Runs st') : drawD call E ops (toSt U st) = some (toSt U st') := by
  unfold drawT at h
  unfold drawD
  have := stepsRT_ok hU hM h
  rw [show (toSt U st).H.length = st.H.length from toH_length st.H]
  rw [← this]
  congr 1
  simp [toSt, toH, toBox]

end

end Go.Proofs.YtpikcdlhgiooaaaGreat.Le

/-
  Symbolic values: calls that are given boxes, and their ends.
-/
namespace Go.Proofs.YtpikcdlhgiooaaaGreat.Le
set_option linter.unusedVariables false
set_option linter.unusedSimpArgs false

section
variable {U : Univ}

mutual
def refsFS : SV U.Ty → List Nat
  | .all id _ => [id]
  | .lsl id _ _ _ => [id]
  | .ptr id _ _ _ => [id]
  | .agg cs => refsFSs cs
  | .tup cs => refsFSs cs
  | .mps cs => refsFSs cs
  | .fn _ a b => refsFSs a ++ refsFSs b
  | .raw v => refsF v
  | _ => []
def refsFSs : List (SV U.Ty) → List Nat
  | [] => []
  | x :: xs => refsFS x ++ refsFSs xs
end

mutual
def renFS (ρ : Nat → Nat) : SV U.Ty → SV U.Ty
  | .all id n => .all (ρ id) n
  | .lsl id off len tot => .lsl (ρ id) off len tot
  | .ptr id i off tot => .ptr (ρ id) i off tot
  | .agg cs => .agg (renFSs ρ cs)
  | .tup cs => .tup (renFSs ρ cs)
  | .mps cs => .mps (renFSs ρ cs)
  | .fn f a b => .fn f (renFSs ρ a) (renFSs ρ b)
  | .raw v => .raw (renF ρ v)
  | v => v
def renFSs (ρ : Nat → Nat) : List (SV U.Ty) → List (SV U.Ty)
  | [] => []
  | x :: xs => renFS ρ x :: renFSs ρ xs
end

mutual
theorem refsF_toV : ∀ x : SV U.Ty, refsF (toV U x) = refsFS x
  | .all _ _ => by simp only [toV, refsF, refsFS]
  | .lsl _ _ _ _ => by simp only [toV, refsF, refsFS]
  | .ptr _ _ _ _ => by simp only [toV, refsF, refsFS]
  | .agg cs => by simp only [toV, refsF, refsFS]; exact refsFs_toV cs
  | .tup cs => by simp only [toV, refsF, refsFS]; exact refsFs_toV cs
  | .mps cs => by simp only [toV, refsF, refsFS]; exact refsFs_toV cs
  | .fn _ a b => by simp only [toV, refsF, refsFS]; rw [refsFs_toV a, refsFs_toV b]
  | .raw v => by simp only [toV, refsFS]
  | .lit _ => by simp only [toV, refsF, refsFS]
  | .si _ _ => by simp only [toV, refsF, refsFS]
  | .sb _ => by simp only [toV, refsF, refsFS]
  | .ss _ => by simp only [toV, refsF, refsFS]
  | .nil _ => by simp only [toV, refsF, refsFS]
  | .sl _ _ => by simp only [toV, refsF, refsFS]
  | .slt _ _ => by simp only [toV, refsF, refsFS]
  | .ept _ _ _ _ => by simp only [toV, refsF, refsFS]
  | .sel _ _ _ => by simp only [toV, refsF, refsFS]
  | .no => by simp only [toV, refsF, refsFS]
  | .und => by simp only [toV, refsF, refsFS]
theorem refsFs_toV : ∀ xs : List (SV U.Ty), refsFs (toVs U xs) = refsFSs xs
  | [] => rfl
  | x :: xs => by simp only [toVs, refsFs, refsFSs]; rw [refsF_toV x, refsFs_toV xs]
end

mutual
theorem renF_toV (ρ : Nat → Nat) : ∀ x : SV U.Ty, toV U (renFS ρ x) = renF ρ (toV U x)
  | .all _ _ => by simp only [toV, renF, renFS]
  | .lsl _ _ _ _ => by simp only [toV, renF, renFS]
  | .ptr _ _ _ _ => by simp only [toV, renF, renFS]
  | .agg cs => by simp only [toV, renF, renFS]; rw [renFs_toV ρ cs]
  | .tup cs => by simp only [toV, renF, renFS]; rw [renFs_toV ρ cs]
  | .mps cs => by simp only [toV, renF, renFS]; rw [renFs_toV ρ cs]
  | .fn _ a b => by simp only [toV, renF, renFS]; rw [renFs_toV ρ a, renFs_toV ρ b]
  | .raw v => by simp only [toV, renFS]
  | .lit _ => by simp only [toV, renF, renFS]
  | .si _ _ => by simp only [toV, renF, renFS]
  | .sb _ => by simp only [toV, renF, renFS]
  | .ss _ => by simp only [toV, renF, renFS]
  | .nil _ => by simp only [toV, renF, renFS]
  | .sl _ _ => by simp only [toV, renF, renFS]
  | .slt _ _ => by simp only [toV, renF, renFS]
  | .ept _ _ _ _ => by simp only [toV, renF, renFS]
  | .sel _ _ _ => by simp only [toV, renF, renFS]
  | .no => by simp only [toV, renF, renFS]
  | .und => by simp only [toV, renF, renFS]
theorem renFs_toV (ρ : Nat → Nat) : ∀ xs : List (SV U.Ty), toVs U (renFSs ρ xs) = renFs ρ (toVs U xs)
  | [] => rfl
  | x :: xs => by simp only [toVs, renFs, renFSs]; rw [renF_toV ρ x, renFs_toV ρ xs]
end

/-! ### cells made ready -/

def retS (e sz : Nat) (H : SHeap U) : SV U.Ty → Tr U (SV U.Ty × SHeap U)
  | .nil _ => .when (U.esz e = sz) (.leaf (.sl e [], H))
  | y => .leaf (y, H)
def prep1S : Fk → SHeap U → SV U.Ty → Tr U (SV U.Ty × SHeap U)
  | .s e sz, H, x => (frz0S H x).andThen fun y => retS e sz (bumpS H (ids1S x)) y
  | .own e sz, H, x => (match x with
    | .nil _ => .when (U.esz e = sz) (.leaf (.all H.length 0, H ++ [.row e [] none]))
    | .all id n => .leaf (.all id n, H)
    | _ => .fail)
  | .keep, H, x => .leaf (x, H)
  | .drop, H, _ => .leaf (.und, H)
def prepLS : List Fk → SHeap U → List (SV U.Ty) → Tr U (List (SV U.Ty) × SHeap U)
  | [], H, [] => .leaf ([], H)
  | f :: fs, H, x :: xs => (prep1S f H x).andThen fun r => (prepLS fs r.2 xs).andThen fun q => .leaf (r.1 :: q.1, q.2)
  | _, _, _ => .fail
def prepVS (fl : List Fk) (H : SHeap U) (x : SV U.Ty) : Tr U (SV U.Ty × SHeap U) :=
  match x with
  | .agg cs => (prepLS fl H cs).andThen fun r => .leaf (.agg r.1, r.2)
  | .raw _ => .fail
  | x => match fl with
    | [f] => prep1S f H x
    | _ => .fail
def prepAS : List (List Fk) → SHeap U → List (SV U.Ty) → Tr U (List (SV U.Ty) × SHeap U)
  | [], H, [] => .leaf ([], H)
  | f :: fs, H, x :: xs => (prepVS f H x).andThen fun r => (prepAS fs r.2 xs).andThen fun q => .leaf (r.1 :: q.1, q.2)
  | _, _, _ => .fail

def packHS : Nat → List Bf → SHeap U → List Nat → List Nat → Tr U (SHeap U × List Nat)
  | 0, _, _, _, _ => .fail
  | _ + 1, _, H, [], seen => .leaf (H, seen)
  | n + 1, fb, H, id :: todo, seen =>
    if seen.contains id then packHS n fb H todo seen else
    match H[id]?, fb with
    | some (.row _ _ none), .row true :: fb' => packHS n fb' H todo (seen ++ [id])
    | some (.row _ _ _), .row false :: fb' => packHS n fb' (bumpS H [id]) todo (seen ++ [id])
    | some (.var _ _ x), .var fl :: fb' => (prepVS fl H x).andThen fun r => (match r.2[id]? with
        | some (.var e m _) => .when (okS r.1 = true) (packHS n fb' (r.2.set id (.var e m r.1)) (todo ++ refsFS r.1) (seen ++ [id]))
        | _ => .fail)
    | _, _ => .fail

def renSBox (ρ : Nat → Nat) : SBox U.Ty → SBox U.Ty
  | .var e n x => .var e n (renFS ρ x)
  | .fvar e n x => .fvar e n (renFS ρ x)
  | b => b
def subHS (H : SHeap U) (ids : List Nat) : SHeap U := ids.map fun id => renSBox (ids.idxOf ·) ((H[id]?).getD .dead)
def packS (fa : List (List Fk)) (fb : List Bf) (k : Nat) (args : List (SV U.Ty)) (H : SHeap U) : Tr U (List Nat × List (SV U.Ty) × SHeap U) :=
  (prepAS fa H args).andThen fun r => (packHS 1000 fb r.2 (List.range k ++ refsFSs r.1) []).andThen fun q => .leaf (q.2, r.1, q.1)

def putBS : SHeap U → List Nat → SHeap U → SHeap U
  | H, [], bs => H ++ bs
  | H, id :: ids, b :: bs => putBS (H.set id b) ids bs
  | H, _ :: _, [] => H
def putBackS (H : SHeap U) (ids : List Nat) (H3 : SHeap U) : SHeap U := putBS H ids (H3.map (renSBox (backN ids H.length)))

/-! ### they stand for the same of values -/

theorem retS_ok {e sz : Nat} {H : SHeap U} {y : SV U.Ty} {r : SV U.Ty × SHeap U} (h : (retS e sz H y).Runs r) (hy : ∀ v, y ≠ .raw v) : toV U r.1 = retype1 sz (toV U y) ∧ r.2 = H := by
  unfold retS at h
  split at h
  · simp only [runs_when, Tr.Runs] at h
    obtain ⟨he, rfl⟩ := h
    simp [toV, retype1, he]
  · simp only [Tr.Runs] at h
    subst h
    refine ⟨?_, rfl⟩
    cases y with
    | nil e' => simp_all
    | raw v => exact absurd rfl (hy v)
    | _ => simp [toV, retype1]

theorem frz0S_raw {H : SHeap U} {x y : SV U.Ty} (h : (frz0S H x).Runs y) : ∀ v, y ≠ .raw v := by
  intro v hv
  subst hv
  unfold frz0S at h
  split at h <;> (try (simp [Tr.Runs] at h; done))
  · obtain ⟨t, xs, fl, h1, h2, h3, h4⟩ := rowAt_runs h; simp [Tr.Runs] at h3
  · obtain ⟨t, xs, fl, h1, h2, h3, h4⟩ := rowAt_runs h; simp [Tr.Runs] at h3

theorem prep1S_ok {f : Fk} {H : SHeap U} {x : SV U.Ty} {r : SV U.Ty × SHeap U} (h : (prep1S f H x).Runs r) : prep1 f (toH U H) (toV U x) = some (toV U r.1, toH U r.2) := by
  cases f with
  | s e sz =>
    simp only [prep1S, runs_andThen] at h
    obtain ⟨y, h1, h2⟩ := h
    obtain ⟨e1, e2⟩ := retS_ok h2 (frz0S_raw h1)
    simp only [prep1, frz0S_ok h1, Option.map_some, e1, e2]
    rw [ids1_toV, bumpS_ok H _ (frz0S_rows h1)]
  | own e sz =>
    simp only [prep1S] at h
    split at h
    · simp only [runs_when, Tr.Runs] at h
      obtain ⟨he, rfl⟩ := h
      simp [prep1, prepO, toV, toH, toBox, newBox, he]
    · simp only [Tr.Runs] at h
      subst h
      simp [prep1, prepO, toV]
    · simp [Tr.Runs] at h
  | keep =>
    simp only [prep1S, Tr.Runs] at h
    subst h
    rfl
  | drop =>
    simp only [prep1S, Tr.Runs] at h
    subst h
    rfl

theorem prepLS_ok : ∀ {fl : List Fk} {H : SHeap U} {xs : List (SV U.Ty)} {r : List (SV U.Ty) × SHeap U}, (prepLS fl H xs).Runs r → prepL fl (toH U H) (toVs U xs) = some (toVs U r.1, toH U r.2) := by
  intro fl
  induction fl with
  | nil =>
    intro H xs r h
    cases xs with
    | nil => simp only [prepLS, Tr.Runs] at h; subst h; rfl
    | cons => simp [prepLS, Tr.Runs] at h
  | cons f fl ih =>
    intro H xs r h
    cases xs with
    | nil => simp [prepLS, Tr.Runs] at h
    | cons x xs =>
      simp only [prepLS, runs_andThen, Tr.Runs] at h
      obtain ⟨p, h1, q, h2, rfl⟩ := h
      simp only [toVs, prepL, prep1S_ok h1, ih h2]

theorem prepVS_ok {fl : List Fk} {H : SHeap U} {x : SV U.Ty} {r : SV U.Ty × SHeap U} (h : (prepVS fl H x).Runs r) : prepV fl (toH U H) (toV U x) = some (toV U r.1, toH U r.2) := by
  unfold prepVS at h
  split at h
  · rename_i cs
    simp only [runs_andThen, Tr.Runs] at h
    obtain ⟨p, h1, rfl⟩ := h
    simp only [toV, prepV, prepLS_ok h1, Option.map_some]
  · simp [Tr.Runs] at h
  · rename_i hn1 hn2
    split at h
    · rename_i f
      have h1 := prep1S_ok h
      unfold prepV
      split
      · rename_i cs hcs
        exfalso
        cases x <;> simp_all [toV]
      · exact h1
    · simp [Tr.Runs] at h

theorem prepAS_ok : ∀ {fl : List (List Fk)} {H : SHeap U} {xs : List (SV U.Ty)} {r : List (SV U.Ty) × SHeap U}, (prepAS fl H xs).Runs r → prepA fl (toH U H) (toVs U xs) = some (toVs U r.1, toH U r.2) := by
  intro fl
  induction fl with
  | nil =>
    intro H xs r h
    cases xs with
    | nil => simp only [prepAS, Tr.Runs] at h; subst h; rfl
    | cons => simp [prepAS, Tr.Runs] at h
  | cons f fl ih =>
    intro H xs r h
    cases xs with
    | nil => simp [prepAS, Tr.Runs] at h
    | cons x xs =>
      simp only [prepAS, runs_andThen, Tr.Runs] at h
      obtain ⟨p, h1, q, h2, rfl⟩ := h
      simp only [toVs, prepA, prepVS_ok h1, ih h2]

theorem packHS_ok : ∀ {n : Nat} {fb : List Bf} {H : SHeap U} {todo seen : List Nat} {r : SHeap U × List Nat}, (packHS n fb H todo seen).Runs r → packH n fb (toH U H) todo seen = some (toH U r.1, r.2) := by
  intro n
  induction n with
  | zero => intro fb H todo seen r h; simp [packHS, Tr.Runs] at h
  | succ n ih =>
    intro fb H todo seen r h
    cases todo with
    | nil => simp only [packHS, Tr.Runs] at h; subst h; rfl
    | cons id todo =>
      unfold packHS at h
      unfold packH
      by_cases hin : seen.contains id = true
      · grind
      · rw [if_neg hin] at h ⊢
        rw [toH_get]
        split at h
        · rename_i t xs fb' hb
          rw [hb]
          simp only [Option.map_some, toBox, Bool.and_self, if_true]
          exact ih h
        · rename_i t xs fl fb' hb
          rw [hb]
          simp only [Option.map_some, toBox, Bool.and_self, if_true, Bool.false_eq_true, if_false]
          rw [← bumpS_ok H [id] (fun i hi => by simp at hi; subst hi; exact ⟨t, xs, fl, hb⟩)]
          exact ih h
        · rename_i e m x fl fb' hb
          rw [hb]
          simp only [runs_andThen] at h
          obtain ⟨p, h1, h2⟩ := h
          simp only [Option.map_some, toBox, newBox, Bool.not_false, Bool.and_self, if_true, prepVS_ok h1, toH_get]
          split at h2
          · rename_i e' m' x' hb'
            simp only [runs_when] at h2
            obtain ⟨hok, h2⟩ := h2
            rw [hb']
            simp only [Option.map_some, toBox, newBox, okS_okV hok, if_true]
            have := ih h2
            rw [toH_set] at this
            simp only [toBox, newBox] at this
            rw [refsF_toV]
            exact this
          · simp [Tr.Runs] at h2
        · simp [Tr.Runs] at h

theorem packS_ok {fa : List (List Fk)} {fb : List Bf} {k : Nat} {args : List (SV U.Ty)} {H : SHeap U} {r : List Nat × List (SV U.Ty) × SHeap U} (h : (packS fa fb k args H).Runs r) : pack fa fb k (toVs U args) (toH U H) = some (r.1, toVs U r.2.1, toH U r.2.2) := by
  simp only [packS, runs_andThen, Tr.Runs] at h
  obtain ⟨p, h1, q, h2, rfl⟩ := h
  simp only [pack, prepAS_ok h1, refsFs_toV, packHS_ok h2]

theorem renSBox_toBox (ρ : Nat → Nat) (b : SBox U.Ty) : toBox U (renSBox ρ b) = renBox ρ (toBox U b) := by
  cases b <;> simp [renSBox, toBox, renBox, newBox, deadBox, goneBox, renFs, renF_toV]

theorem subHS_toH (H : SHeap U) (ids : List Nat) : toH U (subHS H ids) = subH (toH U H) ids := by
  simp only [toH, subHS, subH, List.map_map]
  apply List.map_congr_left
  intro id _
  simp only [Function.comp, renSBox_toBox]
  congr 1
  rw [List.getElem?_map]
  cases H[id]? <;> rfl

theorem putBS_toH : ∀ (H : SHeap U) (ids : List Nat) (bs : SHeap U), toH U (putBS H ids bs) = putB (toH U H) ids (toH U bs) := by
  intro H ids
  induction ids generalizing H with
  | nil => intro bs; simp [putBS, putB, toH]
  | cons id ids ih =>
    intro bs
    cases bs with
    | nil => rfl
    | cons b bs =>
      simp only [putBS, ih, toH_set]
      rfl

theorem putBackS_toH (H : SHeap U) (ids : List Nat) (H3 : SHeap U) : toH U (putBackS H ids H3) = putBack (toH U H) ids (toH U H3) := by
  simp only [putBackS, putBack, putBS_toH]
  congr 1
  simp only [toH, List.map_map]
  apply List.map_congr_left
  intro b _
  simp [Function.comp, renSBox_toBox]

def fnKeyS : List (SV U.Ty) → List FuncId
  | [] => []
  | .fn f _ _ :: vs => f :: fnKeyS vs
  | .raw v :: vs => fnKey [v] ++ fnKeyS vs
  | _ :: vs => fnKeyS vs

theorem fnKey_cons (v : V) (vs : List V) : fnKey (v :: vs) = fnKey [v] ++ fnKey vs := by
  cases v <;> simp [fnKey]

theorem fnKeyS_toV : ∀ (vs : List (SV U.Ty)), fnKey (toVs U vs) = fnKeyS vs := by
  intro vs
  induction vs with
  | nil => rfl
  | cons v vs ih =>
    simp only [toVs]
    rw [fnKey_cons, ih]
    cases v <;> simp [toV, fnKey, fnKeyS]

end

end Go.Proofs.YtpikcdlhgiooaaaGreat.Le

/-
  Runs of code over values, step by step; boxes put in order on the way. Runs are sound.
-/
namespace Go.Proofs.YtpikcdlhgiooaaaGreat.Le
set_option linter.unusedVariables false
open Go.RowKit (Below)

/-! ### boxes in another order -/

structure TidyR (k : Nat) (ids : List Nat) (st st' : St) : Prop where
  nodup : ids.Nodup
  pre : ids.take k = List.range k
  len : st'.H.length = ids.length
  heap : ∀ (j id : Nat), ids[j]? = some id → ∃ b b', st.H[id]? = some b ∧ b.live = true ∧ st'.H[j]? = some b' ∧ b'.live = true ∧ b'.row = b.row ∧ (b'.nilp = true → b.nilp = true) ∧ b'.elem = b.elem ∧ b'.esz = b.esz ∧
    (b.floor ≤ b'.floor ∨ b'.floor = b'.xs.length) ∧ b'.floor ≤ b'.xs.length ∧ (b.row = true → b'.xs = b.xs) ∧ (b.row = false → b'.xs = renFs (ids.idxOf ·) b.xs ∧ ∀ r ∈ refsFs b.xs, r ∈ ids)
  slen : st'.s.length = st.s.length
  slots : ∀ (i : Nat) (v' : V), st'.s[i]? = some v' → v' = .und ∨ ∃ v, st.s[i]? = some v ∧ v' = renF (ids.idxOf ·) v ∧ ∀ r ∈ refsF v, r ∈ ids

theorem reps_slots {σ : Sg} {w : World} : ∀ {xs : List V} {vs : List Value}, xs.length = vs.length → (∀ (i : Nat) (x : V) (v : Value), xs[i]? = some x → vs[i]? = some v → Reps σ w [x] [v]) → Reps σ w xs vs := by
  intro xs
  induction xs with
  | nil => intro vs hl _; cases vs with | nil => exact .nil | cons => simp at hl
  | cons x xs ih =>
    intro vs hl h
    cases vs with
    | nil => simp at hl
    | cons v vs => exact Reps.cons_iff.2 ⟨h 0 x v rfl rfl, ih (by simpa using hl) (fun i y u h1 h2 => h (i + 1) y u (by simpa using h1) (by simpa using h2))⟩

theorem tidy_ok {E : Env} {B : Nat} {w0 : Start} {σ : Sg} {st st' : St} {a : Act} {w : World} {k : Nat} {ids : List Nat} (ht : TidyR k ids st st') (h : Rel E B w0 σ st a w) : Rel E B w0 (σ.ren ids) st' a w := by
  have hbox : ∀ {j : Nat} {L : Loc}, (σ.ren ids).box j = some L → ∃ id, ids[j]? = some id ∧ σ.box id = some L := by
    intro j L hL
    simp only [Sg.ren] at hL
    cases hj : ids[j]? with
    | none => simp [hj] at hL
    | some id => simp_all
  have hsome : ∀ {j : Nat} {b' : Box}, st'.H[j]? = some b' → ∃ id, ids[j]? = some id := by
    intro j b' hb
    have hlt := (List.getElem?_eq_some_iff.1 hb).1
    rw [ht.len] at hlt
    exact ⟨ids[j], List.getElem?_eq_getElem hlt⟩
  have hnom : ∀ (j g : Nat), (σ.ren ids).mp j = some g → False := by
    intro j g hm
    simp only [Sg.ren, Option.bind_eq_some_iff] at hm
    obtain ⟨id, hj, hm⟩ := hm
    obtain ⟨b, b', k1, k2, _⟩ := ht.heap j id hj
    obtain ⟨_, _, _, b2, hb2, hmb⟩ := h.inv.maps.dom id g hm
    rw [k1] at hb2
    cases hb2
    have := mapB_dead hmb
    simp_all
  have hmaps : MapsOK B w0 (σ.ren ids) st'.H w := by
    refine ⟨fun j b' hb hm => ?_, fun j g hm => (hnom j g hm).elim, fun j _ g hm _ => (hnom j g hm).elim⟩
    exfalso
    obtain ⟨id, hid⟩ := hsome hb
    obtain ⟨b, b2, p1, p2, p3, p4, _⟩ := ht.heap j id hid
    rw [hb] at p3
    cases p3
    have := mapB_dead hm
    simp_all
  refine ⟨⟨h.inv.below, h.inv.size, ?_, ?_, ?_, h.inv.cells, ?_, ?_, h.inv.old, fun b hb => ?_, hmaps⟩, h.glob.bare (fun b c hh => ⟨hh, rfl⟩), ?_, h.calm⟩
  · intro j L hL
    obtain ⟨id, h1, h2⟩ := hbox hL
    obtain ⟨b, b', _, _, q1, q2, _⟩ := ht.heap j id h1
    exact ⟨b', q1, .inl q2⟩
  · intro j b' hb hl
    obtain ⟨id, hid⟩ := hsome hb
    obtain ⟨b, b2, p1, p2, p3, p4, p5, p6, p7, p8, p9, p10, p11, p12⟩ := ht.heap j id hid
    rw [hb] at p3
    cases p3
    obtain ⟨L, hL, hok⟩ := h.inv.boxes id b p1 p2
    obtain ⟨us, r1, r2, r3, r4⟩ := hok.reps
    refine ⟨L, by simp [Sg.ren, hid, hL], ?_⟩
    have hlen : b'.xs.length = b.xs.length := by
      cases hr : b.row with
      | true => rw [p11 hr]
      | false => rw [(p12 hr).1, renFs_length]
    have hreps : Reps (σ.ren ids) w b'.xs us := by
      cases hr : b.row with
      | true => rw [p11 hr]; exact r1.bare (fun b c hh => ⟨hh, rfl⟩) ((noRefs_iff _).2 (hok.fzs hr))
      | false => rw [(p12 hr).1]; exact sub_reps r1 (p12 hr).2
    refine ⟨by rw [hlen]; exact hok.tot, ⟨us, hreps, r2, r3, by rw [p7, hlen]; exact r4⟩, fun hn => hok.nilp (p6 hn), by rw [p8]; exact hok.esz, ?_, ?_⟩
    · intro x hx
      cases hr : b.row with
      | true => rw [p11 hr] at hx; exact hok.oks x hx
      | false =>
        rw [(p12 hr).1, renFs_map] at hx
        obtain ⟨y, hy, rfl⟩ := List.mem_map.1 hx
        rw [renF_ok]
        exact hok.oks y hy
    · intro hr x hx
      rw [p5] at hr
      rw [p11 hr] at hx
      exact hok.fzs hr x hx
  · intro j j' b1 b2 L1 L2 g h1 h2 l1 l2 s1 s2 g1 g2
    obtain ⟨i1, e1, t1⟩ := hbox s1
    obtain ⟨i2, e2, t2⟩ := hbox s2
    obtain ⟨c1, _, p1, p2, _⟩ := ht.heap j i1 e1
    obtain ⟨c2, _, q1, q2, _⟩ := ht.heap j' i2 e2
    have := h.inv.apart i1 i2 c1 c2 L1 L2 g p1 q1 p2 q2 t1 t2 g1 g2
    subst this
    exact nodup_get ht.nodup e1 e2
  · intro b c hc j b' L hb hl hL hg
    obtain ⟨id, hid, hL'⟩ := hbox hL
    obtain ⟨b0, b2, p1, p2, p3, p4, p5, p6, p7, p8, p9, p10, p11, p12⟩ := ht.heap j id hid
    rw [hb] at p3
    cases p3
    have := h.inv.floor b c hc id b0 L p1 p2 hL' hg
    have hlen : b'.xs.length = b0.xs.length := by
      cases hr : b0.row with
      | true => rw [p11 hr]
      | false => rw [(p12 hr).1, renFs_length]
    have hle : b0.floor ≤ b'.floor := by
      rcases p9 with p9 | p9
      · exact p9
      · rw [p9, hlen]; exact h.inv.low id b0 p1 p2
    exact Nat.lt_of_lt_of_le this (Nat.mul_le_mul_right _ hle)
  · intro j b' hb hl
    obtain ⟨id, hid⟩ := hsome hb
    obtain ⟨b0, b2, p1, p2, p3, p4, p5, p6, p7, p8, p9, p10, p11, p12⟩ := ht.heap j id hid
    simp_all
  · obtain ⟨k1, k2, k3, k4⟩ := h.inv.kept b hb
    refine ⟨k1, k2, fun j L hL hg => ?_, k4⟩
    grind
  · refine reps_slots (by rw [ht.slen]; exact h.slots.length) (fun i x v hx hv => ?_)
    rcases ht.slots i x hx with rfl | ⟨y, hy, rfl, hc⟩
    · exact .und _ .nil
    · obtain ⟨u, hu, hr⟩ := h.slots.get hy
      rw [hv] at hu
      cases hu
      exact sub_reps hr (by simpa [refsFs] using hc)

/-! ### boxes and slots made ready, in another order -/

/-- Slots laid anew: those that are kept, the others not known. -/
def spread {α : Type} (u : α) (n : Nat) : List Nat → List α → List α
  | k :: ks, v :: vs => (spread u n ks vs).set k v
  | _, _ => List.replicate n u

theorem spread_length {α : Type} (u : α) (n : Nat) : ∀ (ks : List Nat) (vs : List α), (spread u n ks vs).length = n := by
  intro ks
  induction ks with
  | nil => intro vs; simp [spread]
  | cons k ks ih => intro vs; cases vs <;> simp [spread, ih]

theorem spread_get {α : Type} (u : α) (n : Nat) : ∀ (ks : List Nat) (vs : List α) (i : Nat) (x : α), (spread u n ks vs)[i]? = some x → x = u ∨ ∃ j : Nat, ks[j]? = some i ∧ vs[j]? = some x := by
  intro ks
  induction ks with
  | nil =>
    intro vs i x h
    simp only [spread, List.getElem?_replicate] at h
    simp_all
  | cons k ks ih =>
    intro vs i x h
    cases vs with
    | nil =>
      simp only [spread, List.getElem?_replicate] at h
      simp_all
    | cons v vs =>
      simp only [spread, List.getElem?_set] at h
      split at h
      · rename_i hk
        subst hk
        split at h
        · exact .inr ⟨0, rfl, h⟩
        · cases h
      · rcases ih vs i x h with h | ⟨j, h1, h2⟩
        · exact .inl h
        · exact .inr ⟨j + 1, h1, h2⟩

theorem spread_map {α β : Type} (g : α → β) (u : α) (n : Nat) : ∀ (ks : List Nat) (vs : List α), (spread u n ks vs).map g = spread (g u) n ks (vs.map g) := by
  intro ks
  induction ks with
  | nil => intro vs; simp [spread]
  | cons k ks ih => intro vs; cases vs <;> simp [spread, List.map_set, ih]

theorem reps_keep {σ : Sg} {w : World} {xs : List V} {vs : List Value} (h : Reps σ w xs vs) : ∀ keep : List Nat, Reps σ w (keep.map fun i => xs.getD i .und) (keep.map fun i => vs.getD i undef) := by
  intro keep
  induction keep with
  | nil => exact .nil
  | cons i keep ih =>
    simp only [List.map_cons]
    refine Reps.cons_iff.2 ⟨?_, ih⟩
    cases hx : xs[i]? with
    | none => simp only [List.getD, hx, Option.getD_none]; exact .und _ .nil
    | some x =>
      obtain ⟨v, hv, hr⟩ := h.get hx
      simp_all

theorem packd_ok {E : Env} {B : Nat} {w0 : Start} {σ : Sg} {st : St} {a : Act} {w : World} {k : Nat} {fa : List (List Fk)} {fb : List Bf} {keep ids : List Nat} {as : List V} {H2 : Heap} (hp : pack fa fb k (keep.map fun i => st.s.getD i .und) st.H = some (ids, as, H2))
    (h : Rel E B w0 σ st a w) : ∃ σ1, Ext σ w σ1 w ∧ Rel E B w0 (σ1.ren ids) ⟨spread .und st.s.length keep (renFs (ids.idxOf ·) as), subH H2 ids⟩ a w := by
  obtain ⟨hs, hm, _, σ1, hI1, hE1, hr1⟩ := pack_ok h.inv (reps_keep h.slots keep) hp
  have hsub := sub_ok hI1 hs w0 hI1.below hI1.old (fun b hb => by
    obtain ⟨k1, k2, k3, k4⟩ := hI1.kept b hb
    grind)
  refine ⟨σ1, hE1, hsub, (h.glob.ext hE1).bare (fun b c hh => ⟨hh, rfl⟩), ?_, h.calm⟩
  refine reps_slots (by rw [spread_length]; exact h.slots.length) (fun i x v hx hv => ?_)
  rcases spread_get _ _ _ _ i x hx with rfl | ⟨j, h1, h2⟩
  · exact .und _ .nil
  · obtain ⟨u, hu, hr⟩ := (sub_reps hr1 hm).get h2
    simp_all

/-! ### runs -/

inductive Ctl where
  | run (c : Code) | nxt | exit (id : Nat) | ret
inductive Fr where
  | seq (c : Code) | blk (id : Nat) | loop (b : Code)

/-- The types of a call's results on its frozen value. -/
def retypeRL : List (List Nat) → List V → List V
  | es :: rs, v :: vs => retype es v :: retypeRL rs vs
  | [], vs => vs
  | _, [] => []
def retypeR (rs : List (List Nat)) : V → V
  | .tup vs => .tup (retypeRL rs vs)
  | v => retype (rs.headD []) v

inductive RunsV (call : CallF) (E : Env) (f : FuncId) (fn : Func) (k : Nat) (Z : St → V × Heap → Prop) : Ctl → List Fr → St → V × Heap → Prop where
  | skip {K st r} : RunsV call E f fn k Z .nxt K st r → RunsV call E f fn k Z (.run .skip) K st r
  | region {id ops K st st' r} : opsD call E ops (List.range ops.size) st = some st' → RunsV call E f fn k Z .nxt K st' r → RunsV call E f fn k Z (.run (.region id ops false)) K st r
  | draw {id ops K st st' r} : E.calm f id = true → drawD call E ops st = some st' → RunsV call E f fn k Z .nxt K st' r → RunsV call E f fn k Z (.run (.region id ops true)) K st r
  | seq {a b K st r} : RunsV call E f fn k Z (.run a) (.seq b :: K) st r → RunsV call E f fn k Z (.run (.seq a b)) K st r
  | cond {c a b t K st r} : ev E st.s c = .lit (.bool t) → RunsV call E f fn k Z (.run (if t then a else b)) K st r → RunsV call E f fn k Z (.run (.cond c a b)) K st r
  | block {id b K st r} : RunsV call E f fn k Z (.run b) (.blk id :: K) st r → RunsV call E f fn k Z (.run (.block id b)) K st r
  | loop {b K st r} : RunsV call E f fn k Z (.run b) (.loop b :: K) st r → RunsV call E f fn k Z (.run (.loop b)) K st r
  | scope {b K st r} : RunsV call E f fn k Z (.run b) K st r → RunsV call E f fn k Z (.run (.scope b)) K st r
  | label {l K st r} : RunsV call E f fn k Z .nxt K st r → RunsV call E f fn k Z (.run (.label l)) K st r
  | exit {id K st r} : RunsV call E f fn k Z (.exit id) K st r → RunsV call E f fn k Z (.run (.exit id)) K st r
  | ret {K st r} : RunsV call E f fn k Z .ret K st r → RunsV call E f fn k Z (.run .ret) K st r
  | nseq {c K st r} : RunsV call E f fn k Z (.run c) K st r → RunsV call E f fn k Z .nxt (.seq c :: K) st r
  | nblk {id K st r} : RunsV call E f fn k Z .nxt K st r → RunsV call E f fn k Z .nxt (.blk id :: K) st r
  | nloop {b K st r} : RunsV call E f fn k Z (.run b) (.loop b :: K) st r → RunsV call E f fn k Z .nxt (.loop b :: K) st r
  | eseq {id c K st r} : RunsV call E f fn k Z (.exit id) K st r → RunsV call E f fn k Z (.exit id) (.seq c :: K) st r
  | eloop {id b K st r} : RunsV call E f fn k Z (.exit id) K st r → RunsV call E f fn k Z (.exit id) (.loop b :: K) st r
  | eblk {id K st r} : RunsV call E f fn k Z .nxt K st r → RunsV call E f fn k Z (.exit id) (.blk id :: K) st r
  | epass {id i K st r} : id ≠ i → RunsV call E f fn k Z (.exit id) K st r → RunsV call E f fn k Z (.exit id) (.blk i :: K) st r
  | rany {x K st r} : RunsV call E f fn k Z .ret K st r → RunsV call E f fn k Z .ret (x :: K) st r
  | finN {st r} : Z st r → RunsV call E f fn k Z .nxt [] st r
  | finR {st r} : Z st r → RunsV call E f fn k Z .ret [] st r
  | tidy {ctl K ids st st' r} : TidyR k ids st st' → RunsV call E f fn k Z ctl K st' r → RunsV call E f fn k Z ctl K st r
  | packd {ctl K fa fb keep ids as H2 st r} : pack fa fb k (keep.map fun i => st.s.getD i .und) st.H = some (ids, as, H2) → ids.take k = List.range k → RunsV call E f fn k Z ctl K ⟨spread .und st.s.length keep (renFs (ids.idxOf ·) as), subH H2 ids⟩ r → RunsV call E f fn k Z ctl K st r

/-- Being at the end of a loop's body. -/
def LoopIn (P : Program) (b : Code) (Q : Exit → Act → World → Prop) (a : Act) (w : World) : Prop :=
  ∀ fr k cs, ∃ e a' w', Q e a' w' ∧ Arrives P (lone (fr.at a (.code b :: .inLoop b :: k)) cs w) fr k cs e a' w'

theorem LoopIn.of {P : Program} {b : Code} {Q : Exit → Act → World → Prop} {a : Act} {w : World} (h : b.wp P (Exit.then (LoopIn P b Q) Q) a w) : LoopIn P b Q a w := by
  intro fr k cs
  obtain ⟨e, a₁, w₁, hq, harr⟩ := h fr (.inLoop b :: k) cs
  cases e with
  | normal =>
    obtain ⟨e₂, a₂, w₂, hq₂, harr₂⟩ := hq fr k cs
    exact ⟨e₂, a₂, w₂, hq₂, .of_steps (Steps.trans harr (.one step_inLoop)) harr₂⟩
  | exit id => exact ⟨_, a₁, w₁, hq, .pass (x := .inLoop b) rfl (fun _ _ => .inl (by simp)) harr⟩
  | goto l => exact ⟨_, a₁, w₁, hq, .pass (x := .inLoop b) rfl (fun _ _ => .inl (by simp)) harr⟩
  | ret => exact ⟨_, a₁, w₁, hq, .pass (x := .inLoop b) rfl (fun _ _ => .inl (by simp)) harr⟩
  | panic ch => exact ⟨_, a₁, w₁, hq, .pass (x := .inLoop b) rfl (fun _ _ => .inl (by simp)) harr⟩
  | outgrown => exact ⟨_, a₁, w₁, hq, .pass (x := .inLoop b) rfl (fun _ _ => .inl (by simp)) harr⟩

theorem LoopIn.wp {P : Program} {b : Code} {Q : Exit → Act → World → Prop} {a : Act} {w : World} (h : LoopIn P b Q a w) : (Code.loop b).wp P Q a w := by
  intro fr k cs
  obtain ⟨e, a', w', hq, harr⟩ := h fr k cs
  exact ⟨e, a', w', hq, .of_steps (.one step_loop) harr⟩

def QK (P : Program) (Z : Act → World → Prop) : List Fr → Exit → Act → World → Prop
  | [], .normal, a, w => Z a w
  | [], .ret, a, w => Z a w
  | [], _, _, _ => False
  | .seq c :: K, e, a, w => Exit.then (c.wp P (QK P Z K)) (QK P Z K) e a w
  | .blk id :: K, e, a, w => Exit.inBlock id (QK P Z K) e a w
  | .loop b :: K, e, a, w => Exit.then (LoopIn P b (QK P Z K)) (QK P Z K) e a w

theorem QK_goto {P : Program} {Z : Act → World → Prop} {l : Nat} {a : Act} {w : World} : ∀ K : List Fr, QK P Z K (.goto l) a w → False
  | [], h => h
  | .seq _ :: K, h => QK_goto K h
  | .blk _ :: K, h => QK_goto K h
  | .loop _ :: K, h => QK_goto K h

def CtlWp (P : Program) (Z : Act → World → Prop) (K : List Fr) (a : Act) (w : World) : Ctl → Prop
  | .run c => c.wp P (QK P Z K) a w
  | .nxt => QK P Z K .normal a w
  | .exit id => QK P Z K (.exit id) a w
  | .ret => QK P Z K .ret a w

def calmCtl (E : Env) (f : FuncId) : Ctl → Bool
  | .run c => calmC E f c
  | _ => true
def calmK (E : Env) (f : FuncId) : List Fr → Bool
  | [] => true
  | .seq c :: K => calmC E f c && calmK E f K
  | .loop c :: K => calmC E f c && calmK E f K
  | .blk _ :: K => calmK E f K

theorem retypeRL_reps {σ w} : ∀ (rs : List (List Nat)) {xs : List V} {vs : List Value}, Reps σ w xs vs → Reps σ w (retypeRL rs xs) vs := by
  intro rs
  induction rs with
  | nil => intro xs vs h; simpa [retypeRL] using h
  | cons r rs ih =>
    intro xs vs h
    cases xs with
    | nil => simpa [retypeRL] using h
    | cons x xs =>
      obtain ⟨v, vs', rfl, h1, h2⟩ := h.cons_left
      exact Reps.cons_iff.2 ⟨retype_reps _ h1, ih h2⟩

theorem retypeT_reps {σ w x v} (rs : List (List Nat)) (h : Reps σ w [x] [v]) : Reps σ w [retypeR rs x] [v] := by
  unfold retypeR
  split
  · cases h with
    | tup h1 _ => exact .tup (retypeRL_reps rs h1) .nil
  · exact retype_reps _ h

theorem retypeRL_noRef : ∀ (rs : List (List Nat)) (xs : List V), noRefs (retypeRL rs xs) = noRefs xs := by
  intro rs
  induction rs with
  | nil => intro xs; simp [retypeRL]
  | cons r rs ih => intro xs; cases xs <;> simp [retypeRL, noRefs, retype_noRef, ih]

theorem retypeR_noRef (rs : List (List Nat)) (x : V) (h : noRef x = true) : noRef (retypeR rs x) = true := by
  unfold retypeR
  split
  · simpa [noRef, retypeRL_noRef] using h
  · rw [retype_noRef]; exact h

/-- How a call that freezes its result ends. -/
def Zp (E : Env) (fn : Func) (st : St) (r : V × Heap) : Prop := ∃ r0 r1, resultsD E st.H st.s fn.results.toList = some r0 ∧ frzT st.H r0 = some r1 ∧ r = (retypeR (fn.resultTypes.toList.map E.rows) r1, [])
/-- How a call that is given boxes ends. -/
def Zh (E : Env) (fn : Func) (fa : List (List Fk)) (fb : List Bf) (k : Nat) (st : St) (r : V × Heap) : Prop := ∃ r0, resultsD E st.H st.s fn.results.toList = some r0 ∧ exitV fa fb k r0 st.H = some r

/-- What is known at the end of a call. -/
def Fin (P : Program) (fn : Func) (B : Nat) (w0 : Start) (r : V × Heap) (a : Act) (w : World) : Prop :=
  a.defers = [] ∧ ∃ u fz', (results fn a.tmps).run P w = .ok u w ∧ Below B w0.w w ∧ (∀ b c, w0.fz b c → fz' b c) ∧ (∀ b c, fz' b c → b < B → w0.fz b c) ∧ (∀ b c, fz' b c → ∃ u, w.cell? ⟨b, c, none⟩ = some u) ∧ Reps (bare fz') w [r.1] [u] ∧ noRef r.1 = true

def FinH (P : Program) (fn : Func) (B : Nat) (w0 : Start) (σ0 : Sg) (ws : World) (r : V × Heap) (a : Act) (w : World) : Prop :=
  a.defers = [] ∧ ∃ u σ', (results fn a.tmps).run P w = .ok u w ∧ Inv B w0 σ' r.2 w ∧ Ext σ0 ws σ' w ∧ Reps σ' w [r.1] [u]

/-- What may turn, of the first k boxes. -/
structure ExtK (k : Nat) (σ : Sg) (w : World) (σ' : Sg) (w' : World) : Prop where
  box : ∀ id L, id < k → σ.box id = some L → ∃ L', σ'.box id = some L' ∧ L'.esz = L.esz ∧ (L' = L ∨ L.tot < L'.tot)
  fz : ∀ b c, σ.fz b c → σ'.fz b c ∧ w'.cell? ⟨b, c, none⟩ = w.cell? ⟨b, c, none⟩

theorem Ext.k {k : Nat} {σ w σ' w'} (h : Ext σ w σ' w') : ExtK k σ w σ' w' := ⟨fun id L _ hL => h.box id L hL, h.fz⟩
theorem ExtK.trans {k : Nat} {σ w σ' w' σ'' w''} (h : ExtK k σ w σ' w') (g : Ext σ' w' σ'' w'') : ExtK k σ w σ'' w'' := by
  refine ⟨fun id L hk hL => ?_, fun b c hc => ?_⟩
  · obtain ⟨L', h1, h2, h3⟩ := h.box id L hk hL
    obtain ⟨L'', k1, k2, k3⟩ := g.box id L' h1
    grind
  · obtain ⟨a1, a2⟩ := h.fz b c hc
    obtain ⟨b1, b2⟩ := g.fz b c a1
    simp_all
theorem take_range {ids : List Nat} {k j : Nat} (h : ids.take k = List.range k) (hj : j < k) : ids[j]? = some j := by
  have : (ids.take k)[j]? = some j := by rw [h]; simp [hj]
  grind
theorem ExtK.ren {k : Nat} {σ w σ' w'} {ids : List Nat} (h : ExtK k σ w σ' w') (hp : ids.take k = List.range k) : ExtK k σ w (σ'.ren ids) w' := by
  refine ⟨fun id L hk hL => ?_, h.fz⟩
  obtain ⟨L', h1, h2⟩ := h.box id L hk hL
  exact ⟨L', by simp only [Sg.ren, take_range hp hk, Option.bind_some]; exact h1, h2⟩

section
variable {P : Program} {E : Env} {B : Nat} {w0 : Start} {call : CallF} {f : FuncId} {fn : Func}

theorem fin_ok (hE : EnvOK E) (hP : E.P = P) {σ : Sg} {st : St} {a : Act} {w : World} {r : V × Heap} (h : Rel E B w0 σ st a w) (hfz : ∀ b c, w0.fz b c → σ.fz b c) (hz : Zp E fn st r) : Fin P fn B w0 r a w := by
  obtain ⟨r0, r1, hr, hf, rfl⟩ := hz
  obtain ⟨u, hu, hur⟩ := results_ok (P := P) hE hP h.inv h.slots hr
  obtain ⟨hI, hEx⟩ := h.inv.freeze (idsT r0)
  have hr2 := frzT_reps h.inv hur hf (idsT r0) (fun i hi => hi)
  have hn := frzT_noRef h.inv hur hf
  refine ⟨h.calm, u, (σ.freeze st.H (idsT r0)).fz, hu, hI.below, fun b c hh => (hEx.fz b c (hfz b c hh)).1, fun b c hh hlt => hI.old b c hh hlt, hI.cells, ?_, retypeR_noRef _ _ hn⟩
  exact Reps.bare (retypeT_reps _ hr2) (fun b c hh => ⟨hh, rfl⟩) (by simp [noRefs, retypeR_noRef _ _ hn])

theorem finH_ok (hE : EnvOK E) (hP : E.P = P) {fa : List (List Fk)} {fb : List Bf} {k : Nat} {σ0 : Sg} {ws : World} (h0 : ∀ id L, σ0.box id = some L → id < k) (hm0 : ∀ id, σ0.mp id = none) {σ : Sg} {st : St} {a : Act} {w : World} {r : V × Heap} (h : Rel E B w0 σ st a w) (hx : ExtK k σ0 ws σ w)
    (hz : Zh E fn fa fb k st r) : FinH P fn B w0 σ0 ws r a w := by
  obtain ⟨r0, hr, he⟩ := hz
  obtain ⟨u, hu, hur⟩ := results_ok (P := P) hE hP h.inv h.slots hr
  have key : ∀ {args as : List V} {vs : List Value} {ids : List Nat} {H2 : Heap}, Reps σ w args vs → pack fa fb k args st.H = some (ids, as, H2) → ids.take k = List.range k →
      ∃ σ', Inv B w0 σ' (subH H2 ids) w ∧ Ext σ0 ws σ' w ∧ Reps σ' w (renFs (ids.idxOf ·) as) vs := by
    intro args as vs ids H2 hra hp hk
    obtain ⟨hs, hm, _, σ1, hI1, hE1, hr1⟩ := pack_ok h.inv hra hp
    have hsub := sub_ok hI1 hs w0 hI1.below hI1.old (fun b hb => by
      obtain ⟨k1, k2, k3, k4⟩ := hI1.kept b hb
      grind)
    refine ⟨_, hsub, ?_, sub_reps hr1 hm⟩
    have := (hx.trans hE1).ren hk
    exact ⟨fun id L hL => this.box id L (h0 id L hL) hL, this.fz, fun id g hg => by rw [hm0] at hg; cases hg⟩
  refine ⟨h.calm, u, ?_⟩
  unfold exitV at he
  split at he
  · rename_i vs
    split at he
    · rename_i ids as H2 hp
      split at he
      · rename_i hk
        simp only [Option.some.injEq] at he
        subst he
        cases hur with
        | tup h1 _ =>
          obtain ⟨σ', i1, i2, i3⟩ := key h1 hp hk
          exact ⟨σ', hu, i1, i2, .tup i3 .nil⟩
      · cases he
    · cases he
  · split at he
    · rename_i ids x H2 hp
      split at he
      · rename_i hk
        simp only [Option.some.injEq] at he
        subst he
        obtain ⟨σ', i1, i2, i3⟩ := key hur hp hk
        exact ⟨σ', hu, i1, i2, i3⟩
      · cases he
    · cases he

theorem runs_ok (hE : EnvOK E) (hP : E.P = P) (hcall : CallOK P E B w0 call) (hpure : CallsOK E call) {k : Nat} {Z : St → V × Heap → Prop} {F : V × Heap → Act → World → Prop} {σ0 : Sg} {ws : World}
    (hZ : ∀ st r σ a w, Z st r → Rel E B w0 σ st a w → ExtK k σ0 ws σ w → F r a w) {ctl : Ctl} {K : List Fr} {st : St} {r : V × Heap} (h : RunsV call E f fn k Z ctl K st r) :
    calmCtl E f ctl = true → calmK E f K = true → ∀ (σ : Sg) (a : Act) (w : World), Rel E B w0 σ st a w → ExtK k σ0 ws σ w → CtlWp P (F r) K a w ctl := by
  induction h with
  | skip h ih => intro hc hk σ a w hr hf; exact wp_skip (ih rfl hk σ a w hr hf)
  | region hs h ih =>
    intro hc hk σ a w hr hf
    exact wp_region (opsD_ok hE hP hcall _ _ σ a w hr hs (fun a' w' σ' hr' he' => ih rfl hk σ' a' w' hr' (hf.trans he')))
  | draw hcalm hs h ih =>
    intro hc hk σ a w hr hf
    refine draw_ok hE hP (by rw [← hP]; exact hE.mix) hcall hpure ?_ hr hs (fun a' w' σ' hr' he' => ih rfl hk σ' a' w' hr' (hf.trans he'))
    simpa [calmCtl, calmC, hcalm] using hc
  | seq h ih =>
    intro hc hk σ a w hr hf
    simp only [calmCtl, calmC, Bool.and_eq_true] at hc
    exact wp_seq (ih hc.1 (by simp [calmK, hc.2, hk]) σ a w hr hf)
  | cond ht h ih =>
    rename_i c x y t K st r
    intro hc hk σ a w hr hf
    simp only [calmCtl, calmC, Bool.and_eq_true] at hc
    have hv := ev_reps (a := a) hr.glob hr.slots c
    rw [ht] at hv
    have hb : a.eval c = .bool t := by generalize a.eval c = v at hv; cases hv; rfl
    refine wp_cond hb ?_
    refine ih ?_ hk σ a w hr hf
    cases t
    · exact hc.2
    · exact hc.1
  | block h ih =>
    intro hc hk σ a w hr hf
    exact wp_block (ih hc hk σ a w hr hf)
  | loop h ih =>
    intro hc hk σ a w hr hf
    simp only [calmCtl, calmC] at hc
    exact (LoopIn.of (ih hc (by simp [calmK, hc, hk]) σ a w hr hf)).wp
  | scope h ih =>
    intro hc hk σ a w hr hf
    have h1 := ih hc hk σ a w hr hf
    refine wp_scope_straight (wp_mono h1 fun e a' w' hq => ?_)
    cases e with
    | goto l => exact (QK_goto _ hq).elim
    | _ => exact hq
  | label h ih => intro hc hk σ a w hr hf; exact wp_label (ih rfl hk σ a w hr hf)
  | exit h ih => intro hc hk σ a w hr hf; exact wp_exit (ih rfl hk σ a w hr hf)
  | ret h ih => intro hc hk σ a w hr hf; exact wp_ret (ih rfl hk σ a w hr hf)
  | nseq h ih =>
    intro hc hk σ a w hr hf
    simp only [calmK, Bool.and_eq_true] at hk
    exact ih hk.1 hk.2 σ a w hr hf
  | nblk h ih => intro hc hk σ a w hr hf; exact ih rfl hk σ a w hr hf
  | nloop h ih =>
    intro hc hk σ a w hr hf
    have hk' := hk
    simp only [calmK, Bool.and_eq_true] at hk'
    exact LoopIn.of (ih hk'.1 hk σ a w hr hf)
  | eseq h ih =>
    intro hc hk σ a w hr hf
    simp only [calmK, Bool.and_eq_true] at hk
    exact ih rfl hk.2 σ a w hr hf
  | eloop h ih =>
    intro hc hk σ a w hr hf
    simp only [calmK, Bool.and_eq_true] at hk
    exact ih rfl hk.2 σ a w hr hf
  | eblk h ih =>
    intro hc hk σ a w hr hf
    have := ih rfl hk σ a w hr hf
    simp only [CtlWp, QK, Exit.inBlock, if_true]
    exact this
  | epass hne h ih =>
    intro hc hk σ a w hr hf
    have := ih rfl hk σ a w hr hf
    simp only [CtlWp, QK, Exit.inBlock, hne, if_false]
    exact this
  | rany h ih =>
    rename_i x K st r
    intro hc hk σ a w hr hf
    have : calmK E f K = true := by cases x <;> simp_all [calmK]
    have := ih rfl this σ a w hr hf
    cases x <;> exact this
  | finN hz => intro hc hk σ a w hr hf; exact hZ _ _ σ a w hz hr hf
  | finR hz => intro hc hk σ a w hr hf; exact hZ _ _ σ a w hz hr hf
  | tidy ht h ih => intro hc hk σ a w hr hf; exact ih hc hk _ a w (tidy_ok ht hr) (hf.ren ht.pre)
  | packd hp hpre h ih =>
    intro hc hk σ a w hr hf
    obtain ⟨σ1, h1, h2⟩ := packd_ok hp hr
    exact ih hc hk _ a w h2 ((hf.trans h1).ren hpre)

end

end Go.Proofs.YtpikcdlhgiooaaaGreat.Le

/-
  Code over symbolic values: trees of what a piece of code comes to. They are sound.
-/
namespace Go.Proofs.YtpikcdlhgiooaaaGreat.Le
set_option linter.unusedVariables false
set_option linter.unusedSimpArgs false
open Go.RowKit (Below)

section
variable {U : Univ}

/-! ### boxes in order -/

def norm1 : SV U.Ty → SV U.Ty
  | .lit (.int k a) => .si k a
  | .lit (.bool b) => .sb b
  | .lit (.string s) => .ss s
  | v => v
def normS : SV U.Ty → SV U.Ty
  | .agg cs => .agg (cs.map norm1)
  | v => norm1 v
def renS (ids : List Nat) (x : SV U.Ty) : SV U.Ty := renFS (ids.idxOf ·) (normS x)
def canS (ids : List Nat) (x : SV U.Ty) : Bool := (refsFS x).all ids.contains

def boxRefs (H : SHeap U) (id : Nat) : List Nat := match H[id]? with | some (.var _ _ x) => refsFS x | _ => []

def collectS (H : SHeap U) : Nat → List Nat → List Nat → List Nat
  | 0, _, seen => seen
  | _ + 1, [], seen => seen
  | n + 1, id :: todo, seen => if seen.contains id then collectS H n todo seen else collectS H n (todo ++ boxRefs H id) (seen ++ [id])

def tidyBox (ids : List Nat) : SBox U.Ty → SBox U.Ty
  | .var e n x => .var e n (renS ids x)
  | .row t xs fl => .row t xs (fl.map fun _ => xs.length)
  | b => b

def boxFine (ids : List Nat) (H : SHeap U) (id : Nat) : Bool := match H[id]? with
  | some (.var _ _ x) => canS ids x
  | some (.row _ _ _) => true
  | _ => false

def distinct : List Nat → Bool
  | [] => true
  | x :: xs => !xs.contains x && distinct xs

def keepS (keep ids : List Nat) : Nat → List (SV U.Ty) → List (SV U.Ty)
  | _, [] => []
  | i, v :: vs => (if keep.contains i then renS ids v else .und) :: keepS keep ids (i + 1) vs

/-- The length of what a slice looks at, as its box has it now; whether it is what it was. -/
def lenFix (H : SHeap U) : SV U.Ty → SV U.Ty
  | .all id n => match H[id]? with | some (.row t xs _) => .all id xs.length | _ => .all id n
  | .lsl id off len tot => match H[id]? with | some (.row t xs _) => .lsl id off len xs.length | _ => .lsl id off len tot
  | v => v
def lenFixA (H : SHeap U) : SV U.Ty → SV U.Ty
  | .agg cs => .agg (cs.map (lenFix H))
  | v => lenFix H v
def lenChk (H : SHeap U) : SV U.Ty → Bool
  | .all id n => match H[id]? with | some (.row t xs _) => xs.length == n | _ => true
  | .lsl id off len tot => match H[id]? with | some (.row t xs _) => xs.length == tot | _ => true
  | _ => true
def hasLen : SV U.Ty → Bool
  | .all _ _ => true
  | .lsl _ _ _ _ => true
  | _ => false
def chks (H : SHeap U) : SV U.Ty → List Bool
  | .agg cs => (cs.filter hasLen).map (lenChk H)
  | v => if hasLen v then [lenChk H v] else []
def andAll : List Bool → Bool
  | [] => true
  | [b] => b
  | b :: bs => b && andAll bs

def tidyIds (k : Nat) (keep : List Nat) (st : SSt U) : List Nat := collectS st.H 1000 (List.range k ++ keep.flatMap fun i => refsFS (st.s.getD i .und)) []

def boxChks (H : SHeap U) (id : Nat) : List Bool := match H[id]? with | some (.var _ _ x) => chks H x | _ => []

def fixBox (H : SHeap U) : SBox U.Ty → SBox U.Ty
  | .var e n x => .var e n (lenFixA H x)
  | b => b

def tidyT (k : Nat) (keep : List Nat) (st : SSt U) : Tr U (SSt U) :=
  let ids := tidyIds k keep st
  let cs := (keep.flatMap fun i => chks st.H (st.s.getD i .und)) ++ ids.flatMap (boxChks st.H)
  let out : Tr U (SSt U) := .leaf ⟨keepS keep ids 0 (st.s.map (lenFixA st.H)), ids.map fun id => tidyBox ids (fixBox st.H ((st.H[id]?).getD .dead))⟩
  .when ((distinct ids && decide (ids.take k = List.range k) && ids.all (boxFine ids st.H) && keep.all (fun i => canS ids (st.s.getD i .und))) = true)
    (match cs with
     | [] => out
     | c :: cs => .chk (andAll (c :: cs)) out)

theorem norm1_toV (x : SV U.Ty) : toV U (norm1 x) = toV U x := by
  unfold norm1; split <;> rfl

theorem normS_toV (x : SV U.Ty) : toV U (normS x) = toV U x := by
  unfold normS
  split
  · simp only [toV, toVs_map, List.map_map, V.agg.injEq]
    apply List.map_congr_left
    intro c _
    exact norm1_toV c
  · exact norm1_toV x

theorem ren_toV (ids : List Nat) (x : SV U.Ty) : toV U (renS ids x) = renF (ids.idxOf ·) (toV U x) := by
  unfold renS
  rw [renF_toV, normS_toV]

theorem can_toV {ids : List Nat} {x : SV U.Ty} (h : canS ids x = true) : ∀ r ∈ refsF (toV U x), r ∈ ids := by
  intro r hr
  rw [refsF_toV] at hr
  simp only [canS, List.all_eq_true] at h
  simpa using h r hr

theorem distinct_ok : ∀ {l : List Nat}, distinct l = true → l.Nodup := by
  intro l
  induction l with
  | nil => simp_all
  | cons x xs ih =>
    intro h
    simp only [distinct, Bool.and_eq_true, Bool.not_eq_true', List.contains_eq_mem, decide_eq_false_iff_not] at h
    simp_all

theorem keepS_get (keep ids : List Nat) : ∀ (vs : List (SV U.Ty)) (k i : Nat), (keepS keep ids k vs)[i]? = (vs[i]?).map fun v => if keep.contains (k + i) then renS ids v else .und := by
  intro vs
  induction vs with
  | nil => intro k i; simp [keepS]
  | cons v vs ih =>
    intro k i
    cases i with
    | zero => simp [keepS]
    | succ i =>
      simp only [keepS, List.getElem?_cons_succ, ih]
      grind

theorem keepS_length (keep ids : List Nat) : ∀ (vs : List (SV U.Ty)) (k : Nat), (keepS keep ids k vs).length = vs.length := by
  intro vs
  induction vs with
  | nil => intro k; rfl
  | cons v vs ih => intro k; simp [keepS, ih]

theorem andAll_mem : ∀ {l : List Bool}, andAll l = true → ∀ b ∈ l, b = true := by
  intro l
  induction l with
  | nil => simp_all
  | cons x xs ih =>
    intro h b hb
    cases xs with
    | nil => simp only [andAll] at h; simp only [List.mem_singleton] at hb; rw [hb]; exact h
    | cons y ys =>
      simp only [andAll, Bool.and_eq_true] at h
      grind

theorem lenFix_eq {H : SHeap U} {x : SV U.Ty} (h : lenChk H x = true) : lenFix H x = x := by
  unfold lenChk at h
  unfold lenFix
  grind

theorem lenChk_no {H : SHeap U} {x : SV U.Ty} (h : hasLen x = false) : lenChk H x = true := by
  cases x <;> simp_all [hasLen, lenChk]

theorem lenFixA_eq {H : SHeap U} {x : SV U.Ty} (h : ∀ b ∈ chks H x, b = true) : lenFixA H x = x := by
  unfold lenFixA
  split
  · rename_i cs
    congr 1
    conv => rhs; rw [← List.map_id cs]
    apply List.map_congr_left
    intro c hc
    refine lenFix_eq ?_
    by_cases hl : hasLen c = true
    · refine h _ ?_
      simp only [chks, List.mem_map, List.mem_filter]
      grind
    · exact lenChk_no (by simpa using hl)
  · rename_i hne
    refine lenFix_eq ?_
    by_cases hl : hasLen x = true
    · refine h _ ?_
      unfold chks
      simp_all
    · exact lenChk_no (by simpa using hl)

theorem tidyT_ok {k : Nat} {keep : List Nat} {st st' : SSt U} (h : (tidyT k keep st).Runs st') : ∃ ids, TidyR k ids (toSt U st) (toSt U st') := by
  unfold tidyT at h
  simp only [runs_when] at h
  generalize hids : tidyIds k keep st = ids at h
  obtain ⟨hc, h⟩ := h
  simp only [Bool.and_eq_true, List.all_eq_true, decide_eq_true_eq] at hc
  obtain ⟨⟨⟨h1, hpre⟩, h2⟩, h3⟩ := hc
  have hboth : (∀ b ∈ (keep.flatMap fun i => chks st.H (st.s.getD i .und)) ++ ids.flatMap (boxChks st.H), b = true) ∧
      st' = ⟨keepS keep ids 0 (st.s.map (lenFixA st.H)), ids.map fun id => tidyBox ids (fixBox st.H ((st.H[id]?).getD .dead))⟩ := by
    split at h
    · rename_i hnil
      simp only [Tr.Runs] at h
      simp_all
    · rename_i c cs hcons
      simp only [Tr.Runs] at h
      exact ⟨by rw [hcons]; exact andAll_mem h.1, h.2.symm⟩
  obtain ⟨hck, rfl⟩ := hboth
  have hslot : ∀ i ∈ keep, lenFixA st.H (st.s.getD i .und) = st.s.getD i .und := fun i hi => lenFixA_eq fun b hb => hck b (by
    grind)
  have hbx : ∀ id ∈ ids, ∀ e n x, st.H[id]? = some (.var e n x) → lenFixA st.H x = x := fun id hid e n x hb => lenFixA_eq fun b hb' => hck b (by
    simp only [List.mem_append, List.mem_flatMap]
    exact .inr ⟨id, hid, by simp [boxChks, hb]; exact hb'⟩)
  refine ⟨ids, distinct_ok h1, hpre, by simp [toSt, toH], ?_, by simp [toSt, toVs_map, keepS_length], ?_⟩
  · intro j id hj
    have hm := List.mem_of_getElem? hj
    have hf := h2 id hm
    unfold boxFine at hf
    have hget : (toSt U ⟨keepS keep ids 0 (st.s.map (lenFixA st.H)), ids.map fun id => tidyBox ids (fixBox st.H ((st.H[id]?).getD .dead))⟩).H[j]? = some (toBox U (tidyBox ids (fixBox st.H ((st.H[id]?).getD .dead)))) := by
      simp [toSt, toH, hj]
    have hget0 : (toSt U st).H[id]? = (st.H[id]?).map (toBox U) := toH_get _ _
    rw [hget, hget0]
    split at hf
    · rename_i e n x hb
      rw [hb]
      have hx := hbx id hm e n x hb
      refine ⟨_, _, rfl, rfl, rfl, rfl, rfl, fun h => h, rfl, rfl, .inl (Nat.le_refl _), ?_, fun hr => ?_, fun _ => ⟨?_, ?_⟩⟩
      · simp [fixBox, tidyBox, toBox, newBox]
      · simp [toBox, newBox] at hr
      · simp [fixBox, tidyBox, toBox, newBox, hx, ren_toV, renFs]
      · intro r hr
        simp only [toBox, newBox, refsFs, List.append_nil] at hr
        exact can_toV hf r hr
    · rename_i t xs fl hb
      rw [hb]
      refine ⟨_, _, rfl, rfl, rfl, rfl, rfl, fun h => h, rfl, rfl, ?_, ?_, fun hr => rfl, fun hr => ?_⟩
      · cases fl with
        | none => exact .inl (Nat.le_refl _)
        | some n => exact .inr (by simp [fixBox, tidyBox, toBox])
      · cases fl <;> simp [fixBox, tidyBox, toBox]
      · simp [toBox] at hr
    · cases hf
  · intro i v' hv
    simp only [toSt, toVs_map, List.getElem?_map] at hv
    rw [keepS_get] at hv
    cases hs : st.s[i]? with
    | none => simp [hs] at hv
    | some v =>
      simp only [List.getElem?_map, hs, Option.map_some, Option.some.injEq, Nat.zero_add] at hv
      subst hv
      split
      · rename_i hk
        have hmem : i ∈ keep := by simpa using hk
        have hk' := h3 i hmem
        have hv0 : st.s.getD i .und = v := by simp [List.getD, hs]
        have hfix := hslot i hmem
        rw [hv0] at hk' hfix
        rw [hfix]
        exact .inr ⟨toV U v, by simp [toSt, toVs_map, hs], ren_toV ids v, can_toV hk'⟩
      · exact .inl rfl

/-! ### results -/

def resT (E : Env) (H : SHeap U) (s : List (SV U.Ty)) : ResultVar → Tr U (SV U.Ty)
  | .tmp t => .leaf (s.getD t .und)
  | .cell a t => loadT E H t (s.getD a .und)

def ressT (E : Env) (H : SHeap U) (s : List (SV U.Ty)) : List ResultVar → Tr U (List (SV U.Ty))
  | [] => .leaf []
  | r :: rs => (resT E H s r).andThen fun v => (ressT E H s rs).andThen fun vs => .leaf (v :: vs)

def encAll : List Nat → List (SV U.Ty) → Option (List (SV U.Ty))
  | [], [] => some []
  | t :: ts, w :: ws => match U.decS t w, encAll ts ws with | some a, some r => some (U.encS t a :: r) | _, _ => none
  | _, _ => none

def doneT (E : Env) (fn : Func) (st : SSt U) : Tr U (SV U.Ty) :=
  (ressT E st.H st.s fn.results.toList).andThen fun vs =>
    match vs, fn.resultTypes.toList with
    | [v], [t] => (frzS st.H v).andThen fun w => (match U.decS t w with | some a => .leaf (U.encS t a) | none => .fail)
    | vs, ts => .when (vs.length ≠ 1) ((frzAllS st.H vs).andThen fun ws => (match encAll ts ws with | some es => .leaf (.tup es) | none => .fail))

theorem ressT_ok {E : Env} (hU : UnivOK U E) {st : SSt U} : ∀ {rs : List ResultVar} {vs : List (SV U.Ty)}, (ressT E st.H st.s rs).Runs vs → rs.mapM (resD E (toSt U st).H (toSt U st).s) = some (toVs U vs) := by
  intro rs
  induction rs with
  | nil => intro vs h; simp only [ressT, Tr.Runs] at h; subst h; rfl
  | cons r rs ih =>
    intro vs h
    simp only [ressT, runs_andThen, Tr.Runs] at h
    obtain ⟨v, h1, ws, h2, rfl⟩ := h
    have hr : resD E (toSt U st).H (toSt U st).s r = some (toV U v) := by
      cases r with
      | tmp t =>
        simp only [resT, Tr.Runs] at h1
        subst h1
        exact congrArg some (toVs_getD st.s t)
      | cell a t =>
        simp only [resD]
        rw [show (toSt U st).s.getD a .und = toV U (st.s.getD a .und) from toVs_getD st.s a]
        exact loadT_ok hU h1
    rw [List.mapM_cons, hr, ih h2]
    rfl

theorem encAll_ok {E : Env} (hU : UnivOK U E) : ∀ {ts : List Nat} {ws es : List (SV U.Ty)}, encAll ts ws = some es → retypeRL (ts.map E.rows) (toVs U ws) = toVs U es := by
  intro ts
  induction ts with
  | nil =>
    intro ws es h
    cases ws with
    | nil => simp only [encAll, Option.some.injEq] at h; subst h; rfl
    | cons => simp [encAll] at h
  | cons t ts ih =>
    intro ws es h
    cases ws with
    | nil => simp [encAll] at h
    | cons w ws =>
      simp only [encAll] at h
      split at h
      · rename_i a r h1 h2
        simp only [Option.some.injEq] at h
        subst h
        simp only [List.map_cons, toVs, retypeRL, hU.dec _ _ _ h1, hU.encS, ih h2]
      · cases h

theorem frz_tup {H : Heap} {x y : V} (h : frz H x = some y) : ∀ vs, y ≠ .tup vs := by
  intro vs hy
  subst hy
  unfold frz at h
  split at h
  · simp_all
  · unfold frz0 at h
    grind

theorem doneT_ok {E : Env} (hU : UnivOK U E) {fn : Func} {st : SSt U} {v : SV U.Ty} (h : (doneT E fn st).Runs v) :
    ∃ r0 r1, resultsD E (toSt U st).H (toSt U st).s fn.results.toList = some r0 ∧ frzT (toSt U st).H r0 = some r1 ∧ retypeR (fn.resultTypes.toList.map E.rows) r1 = toV U v := by
  unfold doneT at h
  simp only [runs_andThen] at h
  obtain ⟨vs, h1, h⟩ := h
  have hm := ressT_ok hU h1
  split at h
  · rename_i v0 t hts
    simp only [runs_andThen] at h
    obtain ⟨w, h2, h⟩ := h
    split at h
    · rename_i a ha
      simp only [Tr.Runs] at h
      subst h
      have hf : frz (toSt U st).H (toV U v0) = some (toV U w) := frzS_ok h2
      refine ⟨toV U v0, toV U w, by simp only [resultsD, hm, toVs], ?_, ?_⟩
      · unfold frzT
        split
        · rename_i us hus
          rw [hus] at hf
          simp [frz, frz0] at hf
        · exact hf
      · rw [hts]
        unfold retypeR
        split
        · rename_i us hus
          exact absurd hus (frz_tup hf us)
        · simp only [List.map_cons, List.headD_cons, hU.dec _ _ _ ha, hU.encS]
    · simp [Tr.Runs] at h
  · rename_i va vs ts hneg
    simp only [runs_when, runs_andThen] at h
    obtain ⟨hl, ws, h2, h⟩ := h
    split at h
    · rename_i es hes
      simp only [Tr.Runs] at h
      subst h
      refine ⟨.tup (toVs U va), .tup (toVs U ws), ?_, ?_, ?_⟩
      · simp only [resultsD, hm]
        split
        · rename_i x hx
          simp only [Option.some.injEq] at hx
          exfalso
          apply hl
          have := congrArg List.length hx
          rw [length_toVs] at this
          simpa using this
        · simp_all
        simp_all
      · simp only [frzT, toSt, frzAllS_ok h2, Option.map_some]
      · simp only [retypeR, encAll_ok hU hes, toV]
    · simp [Tr.Runs] at h

/-- The end of a call that freezes its result. -/
def doneP (E : Env) (fn : Func) (st : SSt U) : Tr U (SV U.Ty × SHeap U) := (doneT E fn st).andThen fun v => .leaf (v, [])

/-- The end of a call that is given boxes. -/
def doneH (E : Env) (fn : Func) (fa : List (List Fk)) (fb : List Bf) (k : Nat) (st : SSt U) : Tr U (SV U.Ty × SHeap U) :=
  (ressT E st.H st.s fn.results.toList).andThen fun vs =>
    match vs with
    | [.tup _] => .fail
    | [.raw _] => .fail
    | [v] => (packS fa fb k [v] st.H).andThen fun r => (match r.2.1 with
      | [a] => .when (r.1.take k = List.range k) (.leaf (renFS (r.1.idxOf ·) a, subHS r.2.2 r.1))
      | _ => .fail)
    | vs => .when (vs.length ≠ 1) ((packS fa fb k vs st.H).andThen fun r => .when (r.1.take k = List.range k) (.leaf (.tup (renFSs (r.1.idxOf ·) r.2.1), subHS r.2.2 r.1)))

theorem doneP_ok {E : Env} (hU : UnivOK U E) {fn : Func} {st : SSt U} {r : SV U.Ty × SHeap U} (h : (doneP E fn st).Runs r) : Zp E fn (toSt U st) (toV U r.1, toH U r.2) := by
  simp only [doneP, runs_andThen, Tr.Runs] at h
  obtain ⟨v, h1, rfl⟩ := h
  obtain ⟨r0, r1, e1, e2, e3⟩ := doneT_ok hU h1
  exact ⟨r0, r1, e1, e2, by rw [e3]; rfl⟩

theorem doneH_ok {E : Env} (hU : UnivOK U E) {fn : Func} {fa : List (List Fk)} {fb : List Bf} {k : Nat} {st : SSt U} {r : SV U.Ty × SHeap U} (h : (doneH E fn fa fb k st).Runs r) : Zh E fn fa fb k (toSt U st) (toV U r.1, toH U r.2) := by
  simp only [doneH, runs_andThen] at h
  obtain ⟨vs, h1, h⟩ := h
  have hm := ressT_ok hU h1
  split at h
  · simp [Tr.Runs] at h
  · simp [Tr.Runs] at h
  · rename_i v hn1 hn2
    simp only [runs_andThen] at h
    obtain ⟨p, hp, h⟩ := h
    split at h
    · rename_i a ha
      simp only [runs_when, Tr.Runs] at h
      obtain ⟨hk, rfl⟩ := h
      have hp' := packS_ok hp
      rw [ha] at hp'
      refine ⟨toV U v, by simp only [resultsD, hm, toVs], ?_⟩
      have hnt : ∀ cs, toV U v ≠ .tup cs := by
        intro cs hcs
        cases v with
        | tup vs => exact hn1 vs rfl
        | raw x => exact hn2 x rfl
        | _ => simp [toV] at hcs
      unfold exitV
      split
      · rename_i cs hcs; exact absurd hcs (hnt cs)
      · simp only [toVs] at hp'
        simp only [toSt, hp']
        rw [if_pos hk, renF_toV, subHS_toH]
    · simp [Tr.Runs] at h
  · rename_i hneg
    simp only [runs_when, runs_andThen, Tr.Runs] at h
    obtain ⟨hl, p, hp, hk, rfl⟩ := h
    have hp' := packS_ok hp
    refine ⟨.tup (toVs U vs), ?_, ?_⟩
    · simp only [resultsD, hm]
      split
      · rename_i x hx
        simp only [Option.some.injEq] at hx
        exfalso
        apply hl
        have := congrArg List.length hx
        rw [length_toVs] at this
        simpa using this
      · simp_all
      simp_all
    · simp only [exitV, toSt, hp']
      rw [if_pos hk, subHS_toH]
      simp only [toV, renFs_toV]

/-! ### code -/

inductive Leaf (U : Univ) where
  | done (v : SV U.Ty × SHeap U)
  | jump (c : Code) (K : List Fr) (st : SSt U)

/-- What the code comes to from here on, up to the next marked regions. 'sk': the mark of the first region is passed over. -/
def runT (E : Env) (M : Mdl U) (A : Nat → Option (List Nat)) (f : FuncId) (fn : Func) (kk : Nat) (D : SSt U → Tr U (SV U.Ty × SHeap U)) : Nat → Ctl → List Fr → SSt U → Bool → Tr U (Leaf U)
  | 0, _, _, _, _ => .fail
  | n + 1, .run c, K, st, sk =>
    match c with
    | .skip => runT E M A f fn kk D n .nxt K st sk
    | .region id ops draw =>
      let go : Tr U (Leaf U) := if draw then (if E.calm f id then (drawT E M ops st).andThen fun st' => runT E M A f fn kk D n .nxt K st' false else .fail)
        else (opsT E M ops (List.range ops.size) st).andThen fun st' => runT E M A f fn kk D n .nxt K st' false
      match sk with
      | true => go
      | false => match A id with
        | none => go
        | some keep => (tidyT kk keep st).andThen fun st' => .leaf (.jump (.region id ops draw) K st')
    | .seq a b => runT E M A f fn kk D n (.run a) (.seq b :: K) st sk
    | .cond c a b => match evS E st.s c with
      | .lit (.bool true) => runT E M A f fn kk D n (.run a) K st sk
      | .lit (.bool false) => runT E M A f fn kk D n (.run b) K st sk
      | .sb t => .br t (runT E M A f fn kk D n (.run a) K st sk) (runT E M A f fn kk D n (.run b) K st sk)
      | _ => .fail
    | .block id b => runT E M A f fn kk D n (.run b) (.blk id :: K) st sk
    | .loop b => runT E M A f fn kk D n (.run b) (.loop b :: K) st sk
    | .exit id => runT E M A f fn kk D n (.exit id) K st sk
    | .ret => runT E M A f fn kk D n .ret K st sk
    | _ => .fail
  | n + 1, .nxt, [], st, _ => (D st).andThen fun v => .leaf (.done v)
  | n + 1, .nxt, .seq c :: K, st, sk => runT E M A f fn kk D n (.run c) K st sk
  | n + 1, .nxt, .blk _ :: K, st, sk => runT E M A f fn kk D n .nxt K st sk
  | n + 1, .nxt, .loop b :: K, st, sk => runT E M A f fn kk D n (.run b) (.loop b :: K) st sk
  | n + 1, .exit id, .blk i :: K, st, sk => if id = i then runT E M A f fn kk D n .nxt K st sk else runT E M A f fn kk D n (.exit id) K st sk
  | n + 1, .exit id, _ :: K, st, sk => runT E M A f fn kk D n (.exit id) K st sk
  | n + 1, .exit _, [], _, _ => .fail
  | n + 1, .ret, [], st, _ => (D st).andThen fun v => .leaf (.done v)
  | n + 1, .ret, _ :: K, st, sk => runT E M A f fn kk D n .ret K st sk

def LeafPost (call : CallF) (E : Env) (f : FuncId) (fn : Func) (kk : Nat) (Z : St → V × Heap → Prop) : Leaf U → V × Heap → Prop
  | .done s, v => v = (toV U s.1, toH U s.2)
  | .jump c K st, v => RunsV call E f fn kk Z (.run c) K (toSt U st) v

theorem runT_ok {E : Env} {M : Mdl U} {A : Nat → Option (List Nat)} {call : CallF} (hU : UnivOK U E) (hM : MdlOK U M call) {f : FuncId} {fn : Func} {kk : Nat} {D : SSt U → Tr U (SV U.Ty × SHeap U)} {Z : St → V × Heap → Prop} (hD : ∀ st s, (D st).Runs s → Z (toSt U st) (toV U s.1, toH U s.2)) {r : V × Heap} : ∀ (n : Nat) (ctl : Ctl) (K : List Fr) (st : SSt U) (sk : Bool) (l : Leaf U),
    (runT E M A f fn kk D n ctl K st sk).Runs l → LeafPost call E f fn kk Z l r → RunsV call E f fn kk Z ctl K (toSt U st) r := by
  intro n
  induction n with
  | zero => intro ctl K st sk l h; simp [runT, Tr.Runs] at h
  | succ n ih =>
    intro ctl K st sk l h hl
    cases ctl with
    | run c =>
      cases c with
      | skip => exact .skip (ih _ _ _ _ _ h hl)
      | region id ops draw =>
        simp only [runT] at h
        have go : (if draw = true then (if E.calm f id = true then (drawT E M ops st).andThen fun st' => runT E M A f fn kk D n .nxt K st' false else .fail)
            else (opsT E M ops (List.range ops.size) st).andThen fun st' => runT E M A f fn kk D n .nxt K st' false : Tr U (Leaf U)).Runs l → RunsV call E f fn kk Z (.run (.region id ops draw)) K (toSt U st) r := by
          intro hg
          cases draw with
          | true =>
            simp only [if_true] at hg
            by_cases hc : E.calm f id = true
            · rw [if_pos hc, runs_andThen] at hg
              obtain ⟨st1, h1, h2⟩ := hg
              exact .draw hc (drawT_ok hU hM h1) (ih _ _ _ _ _ h2 hl)
            · rw [if_neg hc] at hg
              simp [Tr.Runs] at hg
          | false =>
            simp only [Bool.false_eq_true, if_false] at hg
            rw [runs_andThen] at hg
            obtain ⟨st1, h1, h2⟩ := hg
            exact .region (opsT_ok hU hM h1) (ih _ _ _ _ _ h2 hl)
        cases sk with
        | true => exact go h
        | false =>
          simp only at h
          split at h
          · exact go h
          · rename_i keep hA
            simp only [runs_andThen, Tr.Runs] at h
            obtain ⟨st1, ht, rfl⟩ := h
            obtain ⟨ids, hids⟩ := tidyT_ok ht
            exact .tidy hids hl
      | seq a b => exact .seq (ih _ _ _ _ _ h hl)
      | cond c a b =>
        simp only [runT] at h
        have hev : ev E (toSt U st).s c = toV U (evS E st.s c) := ev_toV E st.s c
        split at h
        · rename_i hc
          rw [hc] at hev
          exact .cond (t := true) hev (ih _ _ _ _ _ h hl)
        · rename_i hc
          rw [hc] at hev
          exact .cond (t := false) hev (ih _ _ _ _ _ h hl)
        · rename_i t hc
          rw [hc] at hev
          simp only [Tr.Runs] at h
          rcases h with ⟨rfl, h⟩ | ⟨rfl, h⟩
          · exact .cond (t := true) hev (ih _ _ _ _ _ h hl)
          · exact .cond (t := false) hev (ih _ _ _ _ _ h hl)
        · simp [Tr.Runs] at h
      | block id b => exact .block (ih _ _ _ _ _ h hl)
      | loop b => exact .loop (ih _ _ _ _ _ h hl)
      | exit id => exact .exit (ih _ _ _ _ _ h hl)
      | ret => exact .ret (ih _ _ _ _ _ h hl)
      | _ => simp [runT, Tr.Runs] at h
    | nxt =>
      cases K with
      | nil =>
        simp only [runT, runs_andThen, Tr.Runs] at h
        obtain ⟨v, h1, rfl⟩ := h
        have : r = (toV U v.1, toH U v.2) := hl
        rw [this]
        exact .finN (hD _ _ h1)
      | cons x K =>
        cases x with
        | seq c => exact .nseq (ih _ _ _ _ _ h hl)
        | blk i => exact .nblk (ih _ _ _ _ _ h hl)
        | loop b => exact .nloop (ih _ _ _ _ _ h hl)
    | exit id =>
      cases K with
      | nil => simp [runT, Tr.Runs] at h
      | cons x K =>
        cases x with
        | seq c => exact .eseq (ih _ _ _ _ _ h hl)
        | blk i =>
          simp only [runT] at h
          split at h
          · rename_i hi
            subst hi
            exact .eblk (ih _ _ _ _ _ h hl)
          · rename_i hi
            exact .epass hi (ih _ _ _ _ _ h hl)
        | loop b => exact .eloop (ih _ _ _ _ _ h hl)
    | ret =>
      cases K with
      | nil =>
        simp only [runT, runs_andThen, Tr.Runs] at h
        obtain ⟨v, h1, rfl⟩ := h
        have : r = (toV U v.1, toH U v.2) := hl
        rw [this]
        exact .finR (hD _ _ h1)
      | cons x K => exact .rany (ih _ _ _ _ _ h hl)

end

end Go.Proofs.YtpikcdlhgiooaaaGreat.Le

/-
  What a call that is given boxes sees and leaves, as values of Lean's types.
-/
namespace Go.Proofs.YtpikcdlhgiooaaaGreat.Le
set_option linter.unusedVariables false
set_option linter.unusedSimpArgs false

/-- A cell, or some: of a type of Lean; a slice of the whole of a row; a pointer to a variable; a function with variables. -/
inductive Pc where
  | v (t n : Nat) (agg : Bool)
  | own (e j : Nat)
  | ptr (j : Nat)
  | fn (f : FuncId) (a b : List Nat)
  | no
  | und
  | nul (ptr : Bool)
inductive Sp where
  | one (c : Pc)
  | agg (cs : List Pc)
inductive Pb where
  | var (e m : Nat) (p : Sp)
  | row (t : Nat) (fresh : Bool)
  | gone
structure Shape where
  args : List Sp
  boxes : List Pb
abbrev Sp.cells : Sp → List Pc
  | .one c => [c]
  | .agg cs => cs

section
variable (U : Univ)

@[reducible] def PX : List Pc → Type
  | [] => Unit
  | .v t _ _ :: ps => U.Ty t × PX ps
  | _ :: ps => PX ps
@[reducible] def AX : List Sp → Type
  | [] => Unit
  | p :: ps => PX U p.cells × AX ps
@[reducible] def BX : List Pb → Type
  | [] => Unit
  | .var _ _ p :: bs => PX U p.cells × BX bs
  | .row t _ :: bs => List (U.Ty t) × BX bs
  | .gone :: bs => BX bs
@[reducible] def Shape.X (s : Shape) : Type := AX U s.args × BX U s.boxes

variable {U}
def lensB : (bs : List Pb) → BX U bs → List Nat
  | [], _ => []
  | .var _ _ _ :: bs, x => 1 :: lensB bs x.2
  | .row _ _ :: bs, x => x.1.length :: lensB bs x.2
  | .gone :: bs, x => 1 :: lensB bs x
def ptrS (j : Nat) : SV U.Ty := .ptr j 0 0 1
def nulS : Bool → SV U.Ty
  | true => .lit (.pointer none)
  | false => .lit .nilFunc
def isNul : Bool → SV U.Ty → Bool
  | true, .lit (.pointer none) => true
  | false, .lit .nilFunc => true
  | _, _ => false
theorem isNul_ok {b : Bool} {c : SV U.Ty} (h : isNul b c = true) : c = nulS b := by
  unfold isNul at h
  split at h <;> first | rfl | cases h
def encP (ls : List Nat) : (ps : List Pc) → PX U ps → List (SV U.Ty)
  | [], _ => []
  | .v t _ _ :: ps, x => cellsS (U.encS t x.1) ++ encP ls ps x.2
  | .own _ j :: ps, x => .all j (ls.getD j 0) :: encP ls ps x
  | .ptr j :: ps, x => ptrS j :: encP ls ps x
  | .fn f a b :: ps, x => .fn f (a.map ptrS) (b.map ptrS) :: encP ls ps x
  | .no :: ps, x => .no :: encP ls ps x
  | .und :: ps, x => .und :: encP ls ps x
  | .nul b :: ps, x => nulS b :: encP ls ps x
def encSp (ls : List Nat) : (p : Sp) → PX U p.cells → SV U.Ty
  | .one c, x => (encP ls [c] x).headD .und
  | .agg cs, x => .agg (encP ls cs x)
def encA (ls : List Nat) : (ps : List Sp) → AX U ps → List (SV U.Ty)
  | [], _ => []
  | p :: ps, x => encSp ls p x.1 :: encA ls ps x.2
def encB (ls : List Nat) : (bs : List Pb) → BX U bs → SHeap U
  | [], _ => []
  | .var e m p :: bs, x => .var e m (encSp ls p x.1) :: encB ls bs x.2
  | .row t fresh :: bs, x => .row t x.1 (if fresh then none else some x.1.length) :: encB ls bs x.2
  | .gone :: bs, x => .gone :: encB ls bs x
def Shape.enc (s : Shape) (x : s.X U) : List (SV U.Ty) × SHeap U := (encA (lensB s.boxes x.2) s.args x.1, encB (lensB s.boxes x.2) s.boxes x.2)

/-! ### read back -/

def clean1 : SV U.Ty → Bool
  | .nil _ | .raw _ | .agg _ | .tup _ | .mps _ | .sel .. => false
  | _ => true
def isPtrs : List Nat → List (SV U.Ty) → Bool
  | [], [] => true
  | j :: js, .ptr i a b c :: xs => decide (i = j ∧ a = 0 ∧ b = 0 ∧ c = 1) && isPtrs js xs
  | _, _ => false
def lensS (H : SHeap U) : List Nat := H.map fun b => match b with | .row _ xs _ => xs.length | _ => 1
def decP (ls : List Nat) : (ps : List Pc) → List (SV U.Ty) → Option (PX U ps × List Bool)
  | [], cs => if cs.isEmpty then some ((), []) else none
  | .v t n true :: ps, cs => if (cs.take n).length = n ∧ (cs.take n).all clean1 = true then
      (match U.decS t (.agg (cs.take n)), decP ls ps (cs.drop n) with
       | some a, some r => some ((a, r.1), r.2)
       | _, _ => none) else none
  | .v t _ false :: ps, c :: cs => if clean1 c then
      (match U.decS t c, decP ls ps cs with
       | some a, some r => some ((a, r.1), r.2)
       | _, _ => none) else none
  | .own _ j :: ps, .all i n :: cs => if i = j then (decP ls ps cs).map fun r => (r.1, (ls.getD j 0 == n) :: r.2) else none
  | .ptr j :: ps, .ptr i a b c :: cs => if i = j ∧ a = 0 ∧ b = 0 ∧ c = 1 then decP ls ps cs else none
  | .fn f a b :: ps, .fn g a' b' :: cs => if g = f ∧ isPtrs a a' = true ∧ isPtrs b b' = true then decP ls ps cs else none
  | .no :: ps, .no :: cs => decP ls ps cs
  | .und :: ps, .und :: cs => decP ls ps cs
  | .nul b :: ps, c :: cs => if isNul b c = true then decP ls ps cs else none
  | _ :: _, _ => none
def decSp (ls : List Nat) : (p : Sp) → SV U.Ty → Option (PX U p.cells × List Bool)
  | .one c, x => decP ls [c] [x]
  | .agg cs, .agg xs => decP ls cs xs
  | _, _ => none
def decA (ls : List Nat) : (ps : List Sp) → List (SV U.Ty) → Option (AX U ps × List Bool)
  | [], [] => some ((), [])
  | p :: ps, x :: xs => (match decSp ls p x, decA ls ps xs with
    | some a, some r => some ((a.1, r.1), a.2 ++ r.2)
    | _, _ => none)
  | _, _ => none
def decB (ls : List Nat) : (bs : List Pb) → SHeap U → Option (BX U bs × List Bool)
  | [], [] => some ((), [])
  | .var e m p :: bs, .var e' m' x :: H => if e' = e ∧ m' = m then
      (match decSp ls p x, decB ls bs H with
       | some a, some r => some ((a.1, r.1), a.2 ++ r.2)
       | _, _ => none) else none
  | .row t fresh :: bs, .row t' xs fl :: H => if h : t' = t then
      (match fresh, fl, decB ls bs H with
       | true, none, some r => some ((h ▸ xs, r.1), r.2)
       | false, some n, some r => some ((h ▸ xs, r.1), (n == xs.length) :: r.2)
       | _, _, _ => none) else none
  | .gone :: bs, .gone :: H => decB ls bs H
  | _, _ => none
def Shape.dec (s : Shape) (as : List (SV U.Ty)) (H : SHeap U) : Option (s.X U × List Bool) :=
  match decA (lensS H) s.args as, decB (lensS H) s.boxes H with
  | some a, some b => some ((a.1, b.1), a.2 ++ b.2)
  | _, _ => none

/-! ### what is read is what is there -/

theorem clean1_retype {x : SV U.Ty} (h : clean1 x = true) (e : Nat) : retype1 e (toV U x) = toV U x := by
  cases x <;> simp_all [clean1, toV, retype1]
theorem clean1_cells {x : SV U.Ty} (h : clean1 x = true) : (toV U x).cells = [toV U x] := by
  cases x <;> first | rfl | (simp [clean1] at h)
theorem clean1_agg {x : SV U.Ty} (h : clean1 x = true) : ∀ cs, toV U x ≠ .agg cs := by
  intro cs hc
  cases x <;> first | (cases hc; done) | (simp [clean1] at h)
theorem clean_retype : ∀ {xs : List (SV U.Ty)}, xs.all clean1 = true → ∀ es, retypeL es (toVs U xs) = toVs U xs := by
  intro xs
  induction xs with
  | nil => intro _ es; cases es <;> rfl
  | cons x xs ih =>
    intro h es
    simp only [List.all_cons, Bool.and_eq_true] at h
    cases es with
    | nil => rfl
    | cons e es => simp only [toVs, retypeL, clean1_retype h.1, ih h.2]

theorem toVs_append (xs ys : List (SV U.Ty)) : toVs U (xs ++ ys) = toVs U xs ++ toVs U ys := by simp [toVs_map]

theorem isPtrs_ok : ∀ {js : List Nat} {xs : List (SV U.Ty)}, isPtrs js xs = true → xs = js.map ptrS := by
  intro js
  induction js with
  | nil => intro xs h; cases xs with
    | nil => rfl
    | cons => simp [isPtrs] at h
  | cons j js ih =>
    intro xs h
    cases xs with
    | nil => simp [isPtrs] at h
    | cons x xs =>
      cases x <;> simp [isPtrs] at h
      obtain ⟨⟨rfl, rfl, rfl, rfl⟩, h2⟩ := h
      rw [ih h2]
      rfl

theorem decP_ok {E : Env} (hU : UnivOK U E) (ls : List Nat) : ∀ (ps : List Pc) {cs : List (SV U.Ty)} {r : PX U ps × List Bool}, decP ls ps cs = some r → (∀ b ∈ r.2, b = true) → toVs U cs = toVs U (encP ls ps r.1) := by
  intro ps
  induction ps with
  | nil =>
    intro cs r h _
    simp only [decP] at h
    split at h
    · rename_i hc; cases cs with
      | nil => rfl
      | cons => simp at hc
    · cases h
  | cons p ps ih =>
    intro cs r h hb
    cases p with
    | v t n ag =>
      cases ag with
      | true =>
        simp only [decP] at h
        split at h
        · rename_i hc
          split at h
          · rename_i a r' h1 h2
            simp only [Option.some.injEq] at h
            subst h
            have e := hU.dec t _ a h1
            simp only [toV, retype] at e
            rw [clean_retype hc.2] at e
            have ec := hU.cells t a
            rw [← e] at ec
            simp only [V.cells] at ec
            simp only [encP, toVs_append, ← ec, ← ih h2 hb]
            rw [← toVs_append, List.take_append_drop]
          · cases h
        · cases h
      | false =>
        cases cs with
        | nil => simp [decP] at h
        | cons c cs =>
          simp only [decP] at h
          split at h
          · rename_i hc
            split at h
            · rename_i a r' h1 h2
              simp only [Option.some.injEq] at h
              subst h
              have e := hU.dec t _ a h1
              have hr : ∀ es, retype es (toV U c) = toV U c := by
                intro es
                unfold retype
                split
                · rename_i cs' hcs
                  exact absurd hcs (clean1_agg hc cs')
                · exact clean1_retype hc _
              rw [hr] at e
              have ec := hU.cells t a
              rw [← e] at ec
              rw [clean1_cells hc] at ec
              simp only [encP, toVs_append, ← ec, ← ih h2 hb]
              rfl
            · cases h
          · cases h
    | own e j =>
      cases cs with
      | nil => simp [decP] at h
      | cons c cs =>
        cases c <;> simp only [decP] at h <;> try (cases h; done)
        split at h
        · rename_i hij
          subst hij
          simp only [Option.map_eq_some_iff] at h
          obtain ⟨r', h2, rfl⟩ := h
          have hn := hb _ (List.mem_cons_self ..)
          simp only [beq_iff_eq] at hn
          simp only [encP, toVs, toV, hn, ih h2 (fun b hh => hb b (by simp [hh]))]
        · cases h
    | ptr j =>
      cases cs with
      | nil => simp [decP] at h
      | cons c cs =>
        cases c <;> simp only [decP] at h <;> try (cases h; done)
        split at h
        · rename_i hij
          obtain ⟨rfl, rfl, rfl, rfl⟩ := hij
          simp only [encP, toVs, ptrS, ih h hb]
        · cases h
    | fn f a b =>
      cases cs with
      | nil => simp [decP] at h
      | cons c cs =>
        cases c <;> simp only [decP] at h <;> try (cases h; done)
        split at h
        · rename_i hij
          obtain ⟨rfl, h1, h2⟩ := hij
          rw [isPtrs_ok h1, isPtrs_ok h2]
          simp only [encP, toVs, ih h hb]
        · cases h
    | no =>
      cases cs with
      | nil => simp [decP] at h
      | cons c cs =>
        cases c <;> simp only [decP] at h <;> try (cases h; done)
        simp only [encP, toVs, ih h hb]
    | und =>
      cases cs with
      | nil => simp [decP] at h
      | cons c cs =>
        cases c <;> simp only [decP] at h <;> try (cases h; done)
        simp only [encP, toVs, ih h hb]
    | nul b =>
      cases cs with
      | nil => simp [decP] at h
      | cons c cs =>
        simp only [decP] at h
        split at h
        · rename_i hn
          rw [isNul_ok hn]
          simp only [encP, toVs, ih h hb]
        · cases h

theorem decSp_ok {E : Env} (hU : UnivOK U E) (ls : List Nat) {p : Sp} {x : SV U.Ty} {r : PX U p.cells × List Bool} (h : decSp ls p x = some r) (hb : ∀ b ∈ r.2, b = true) : toV U x = toV U (encSp ls p r.1) := by
  cases p with
  | one c =>
    have := decP_ok hU ls [c] h hb
    simp only [toVs] at this
    cases hp : encP ls [c] r.1 with
    | nil => rw [hp] at this; cases this
    | cons y ys =>
      rw [hp] at this
      simp only [toVs, List.cons.injEq] at this
      simp only [encSp]
      simp_all
  | agg cs =>
    cases x <;> simp only [decSp] at h <;> try (cases h; done)
    have := decP_ok hU ls cs h hb
    simp only [encSp, toV, this]

theorem decA_ok {E : Env} (hU : UnivOK U E) (ls : List Nat) : ∀ (ps : List Sp) {cs : List (SV U.Ty)} {r : AX U ps × List Bool}, decA ls ps cs = some r → (∀ b ∈ r.2, b = true) → toVs U cs = toVs U (encA ls ps r.1) := by
  intro ps
  induction ps with
  | nil =>
    intro cs r h _
    cases cs with
    | nil => rfl
    | cons => simp [decA] at h
  | cons p ps ih =>
    intro cs r h hb
    cases cs with
    | nil => simp [decA] at h
    | cons c cs =>
      simp only [decA] at h
      split at h
      · rename_i a r' h1 h2
        simp only [Option.some.injEq] at h
        subst h
        simp only [encA, toVs, decSp_ok hU ls h1 (fun b hh => hb b (by simp [hh])), ih h2 (fun b hh => hb b (by simp [hh]))]
      · cases h

theorem decB_ok {E : Env} (hU : UnivOK U E) (ls : List Nat) : ∀ (bs : List Pb) {H : SHeap U} {r : BX U bs × List Bool}, decB ls bs H = some r → (∀ b ∈ r.2, b = true) → toH U H = toH U (encB ls bs r.1) ∧ lensB bs r.1 = lensS H := by
  intro bs
  induction bs with
  | nil =>
    intro H r h _
    cases H with
    | nil => exact ⟨rfl, rfl⟩
    | cons => simp [decB] at h
  | cons b bs ih =>
    intro H r h hb
    cases H with
    | nil => cases b <;> simp [decB] at h
    | cons x H =>
      cases b with
      | var e m p =>
        cases x <;> simp only [decB] at h <;> try (cases h; done)
        split at h
        · rename_i he
          obtain ⟨rfl, rfl⟩ := he
          split at h
          · rename_i a r' h1 h2
            simp only [Option.some.injEq] at h
            subst h
            obtain ⟨e1, e2⟩ := ih h2 (fun b hh => hb b (by simp [hh]))
            have e3 := decSp_ok hU ls h1 (fun b hh => hb b (by simp [hh]))
            refine ⟨?_, ?_⟩
            · simp only [toH, encB, List.map_cons, toBox, e3]
              exact congrArg _ e1
            · simp only [lensB, lensS, List.map_cons, e2]
          · cases h
        · cases h
      | row t fresh =>
        cases x <;> simp only [decB] at h <;> try (cases h; done)
        rename_i t' xs fl
        split at h
        · rename_i ht
          subst ht
          split at h
          · rename_i r' h2
            simp only [Option.some.injEq] at h
            subst h
            obtain ⟨e1, e2⟩ := ih h2 hb
            refine ⟨?_, ?_⟩
            · simp only [toH, encB, List.map_cons, if_true]
              exact congrArg _ e1
            · simp only [lensB, lensS, List.map_cons, e2]
          · rename_i n r' h2
            simp only [Option.some.injEq] at h
            subst h
            obtain ⟨e1, e2⟩ := ih h2 (fun b hh => hb b (by simp [hh]))
            have hn := hb _ (List.mem_cons_self ..)
            simp only [beq_iff_eq] at hn
            refine ⟨?_, ?_⟩
            · simp only [toH, encB, List.map_cons, Bool.false_eq_true, if_false, toBox, hn]
              exact congrArg _ e1
            · simp only [lensB, lensS, List.map_cons, e2]
          · cases h
        · cases h
      | gone =>
        cases x <;> simp only [decB] at h <;> try (cases h; done)
        obtain ⟨e1, e2⟩ := ih h hb
        refine ⟨?_, ?_⟩
        · simp only [toH, encB, List.map_cons]
          exact congrArg _ e1
        · simp only [lensB, lensS, List.map_cons, e2]

theorem Shape.dec_ok {E : Env} (hU : UnivOK U E) {s : Shape} {as : List (SV U.Ty)} {H : SHeap U} {r : s.X U × List Bool} (h : s.dec as H = some r) (hb : ∀ b ∈ r.2, b = true) : toVs U as = toVs U (s.enc r.1).1 ∧ toH U H = toH U (s.enc r.1).2 := by
  unfold Shape.dec at h
  split at h
  · rename_i a b h1 h2
    simp only [Option.some.injEq] at h
    subst h
    obtain ⟨e1, e2⟩ := decB_ok hU _ _ h2 (fun b hh => hb b (by simp [hh]))
    have e3 := decA_ok hU _ _ h1 (fun b hh => hb b (by simp [hh]))
    simp only [Shape.enc, e2]
    exact ⟨e3, e1⟩
  · cases h

/-! ### one value alone is shown so -/

variable (U)
def PcOK : Pc → Prop
  | .v t n true => t ∈ U.keys ∧ ∀ a, ∃ cs, U.encS t a = .agg cs ∧ cs.length = n
  | .v t n false => t ∈ U.keys ∧ ∀ a, cellsS (U.encS t a) = [U.encS t a]
  | _ => True
def PsOK : List Pc → Prop
  | [] => True
  | p :: ps => PcOK U p ∧ PsOK ps
def SpOK : Sp → Prop
  | .one (.v _ _ true) => False
  | .one c => PcOK U c
  | .agg cs => PsOK U cs
def AsOK : List Sp → Prop
  | [] => True
  | p :: ps => SpOK U p ∧ AsOK ps
def BsOK : List Pb → Prop
  | [] => True
  | .var _ _ p :: bs => SpOK U p ∧ BsOK bs
  | .row t _ :: bs => t ∈ U.keys ∧ BsOK bs
  | .gone :: bs => BsOK bs
def Shape.OK (s : Shape) : Prop := AsOK U s.args ∧ BsOK U s.boxes
variable {U}

def pcB (k1 : List Nat) (kN : List (Nat × Nat)) : Pc → Bool
  | .v t n true => kN.contains (t, n)
  | .v t _ false => k1.contains t
  | _ => true
def spB (k1 : List Nat) (kN : List (Nat × Nat)) : Sp → Bool
  | .one (.v _ _ true) => false
  | .one c => pcB k1 kN c
  | .agg cs => cs.all (pcB k1 kN)
def pbB (U : Univ) (k1 : List Nat) (kN : List (Nat × Nat)) : Pb → Bool
  | .var _ _ p => spB k1 kN p
  | .row t _ => U.keys.contains t
  | .gone => true
def shB (U : Univ) (k1 : List Nat) (kN : List (Nat × Nat)) (s : Shape) : Bool := s.args.all (spB k1 kN) && s.boxes.all (pbB U k1 kN)
/-- Shapes that are fine by two tables: types of one cell, types of several. -/
theorem Shape.ok_of {k1 : List Nat} {kN : List (Nat × Nat)} (h1 : ∀ t ∈ k1, t ∈ U.keys ∧ ∀ a, cellsS (U.encS t a) = [U.encS t a]) (hN : ∀ p ∈ kN, p.1 ∈ U.keys ∧ ∀ a, ∃ cs, U.encS p.1 a = .agg cs ∧ cs.length = p.2) {s : Shape} (h : shB U k1 kN s = true) : s.OK U := by
  have hp : ∀ c, pcB k1 kN c = true → PcOK U c := by
    intro c hc
    cases c with
    | v t n ag => cases ag with
      | true => exact hN (t, n) (by simpa [pcB] using hc)
      | false => exact h1 t (by simpa [pcB] using hc)
    | _ => trivial
  have hps : ∀ cs : List Pc, cs.all (pcB k1 kN) = true → PsOK U cs := by
    intro cs
    induction cs with
    | nil => intro _; trivial
    | cons c cs ih => intro h; simp only [List.all_cons, Bool.and_eq_true] at h; exact ⟨hp c h.1, ih h.2⟩
  have hsp : ∀ p, spB k1 kN p = true → SpOK U p := by
    intro p hh
    cases p with
    | agg cs => exact hps cs hh
    | one c => cases c with
      | v t n ag => cases ag with
        | true => cases hh
        | false => exact hp (.v t n false) hh
      | _ => trivial
  have has : ∀ l : List Sp, l.all (spB k1 kN) = true → AsOK U l := by
    intro l
    induction l with
    | nil => intro _; trivial
    | cons p l ih => intro h; simp only [List.all_cons, Bool.and_eq_true] at h; exact ⟨hsp p h.1, ih h.2⟩
  have hbs : ∀ l : List Pb, l.all (pbB U k1 kN) = true → BsOK U l := by
    intro l
    induction l with
    | nil => intro _; trivial
    | cons p l ih =>
      intro h
      simp only [List.all_cons, Bool.and_eq_true] at h
      cases p with
      | var e m q => exact ⟨hsp q h.1, ih h.2⟩
      | row t fr => exact ⟨by simpa [pbB] using h.1, ih h.2⟩
      | gone => exact ih h.2
  unfold shB at h
  rw [Bool.and_eq_true] at h
  exact ⟨has _ h.1, hbs _ h.2⟩

theorem encP_inj {E : Env} (hU : UnivOK U E) {ls ls' : List Nat} : ∀ {ps : List Pc} {x y : PX U ps}, PsOK U ps → toVs U (encP ls ps x) = toVs U (encP ls' ps y) → x = y := by
  intro ps
  induction ps with
  | nil => intro x y _ _; rfl
  | cons p ps ih =>
    intro x y hk h
    obtain ⟨hp, hk⟩ := hk
    cases p with
    | v t n ag =>
      obtain ⟨a, x'⟩ := x
      obtain ⟨b, y'⟩ := y
      simp only [encP, toVs_append] at h
      have key : toVs U (cellsS (U.encS t a)) = toVs U (cellsS (U.encS t b)) ∧ toVs U (encP ls ps x') = toVs U (encP ls' ps y') ∧ U.enc t a = U.enc t b ∧ t ∈ U.keys := by
        cases ag with
        | true =>
          obtain ⟨hm, hl⟩ := hp
          obtain ⟨ca, ea, la⟩ := hl a
          obtain ⟨cb, eb, lb⟩ := hl b
          have := List.append_inj h (by rw [length_toVs, length_toVs, ea, eb]; simp only [cellsS, la, lb])
          refine ⟨this.1, this.2, ?_, hm⟩
          rw [← hU.encS, ← hU.encS, ea, eb]
          have h1 := this.1
          rw [ea, eb] at h1
          simp only [cellsS] at h1
          simp only [toV, h1]
        | false =>
          obtain ⟨hm, hl⟩ := hp
          have := List.append_inj h (by simp_all; rfl)
          refine ⟨this.1, this.2, ?_, hm⟩
          have h1 := this.1
          rw [hl a, hl b] at h1
          simp only [toVs, List.cons.injEq, and_true, hU.encS] at h1
          exact h1
      obtain ⟨_, h2, h3, hm⟩ := key
      have ha := hU.inj t hm a b h3
      grind
    | own e j =>
      simp only [encP, toVs, List.cons.injEq] at h
      exact ih hk h.2
    | ptr j =>
      simp only [encP, toVs, List.cons.injEq] at h
      exact ih hk h.2
    | fn f a b =>
      simp only [encP, toVs, List.cons.injEq] at h
      exact ih hk h.2
    | no =>
      simp only [encP, toVs, List.cons.injEq] at h
      exact ih hk h.2
    | und =>
      simp only [encP, toVs, List.cons.injEq] at h
      exact ih hk h.2
    | nul b =>
      simp only [encP, toVs, List.cons.injEq] at h
      exact ih hk h.2

theorem encSp_inj {E : Env} (hU : UnivOK U E) {ls ls' : List Nat} {p : Sp} {x y : PX U p.cells} (hk : SpOK U p) (h : toV U (encSp ls p x) = toV U (encSp ls' p y)) : x = y := by
  cases p with
  | one c =>
    cases c with
    | v t n ag =>
      cases ag with
      | true => exact hk.elim
      | false =>
        obtain ⟨a, x'⟩ := x
        obtain ⟨b, y'⟩ := y
        have hk' : PcOK U (.v t n false) := hk
        refine encP_inj hU (ps := [.v t n false]) ⟨hk', trivial⟩ (ls := ls) (ls' := ls') ?_
        simp only [encSp, encP, hk'.2, List.append_nil, List.headD_cons] at h
        simp only [encP, hk'.2, List.append_nil, toVs, h]
    | own e j => simp_all
    | ptr j => rfl
    | fn f a b => rfl
    | no => rfl
    | und => rfl
    | nul b => rfl
  | agg cs =>
    simp only [encSp, toV, V.agg.injEq] at h
    exact encP_inj hU hk h

theorem encA_inj {E : Env} (hU : UnivOK U E) {ls ls' : List Nat} : ∀ {ps : List Sp} {x y : AX U ps}, AsOK U ps → toVs U (encA ls ps x) = toVs U (encA ls' ps y) → x = y := by
  intro ps
  induction ps with
  | nil => intro x y _ _; rfl
  | cons p ps ih =>
    intro x y hk h
    obtain ⟨a, x'⟩ := x
    obtain ⟨b, y'⟩ := y
    simp only [encA, toVs, List.cons.injEq] at h
    rw [encSp_inj hU hk.1 h.1, ih hk.2 h.2]

theorem map_enc_inj {E : Env} (hU : UnivOK U E) {t : Nat} (ht : t ∈ U.keys) : ∀ {xs ys : List (U.Ty t)}, xs.map (U.enc t) = ys.map (U.enc t) → xs = ys := by
  intro xs
  induction xs with
  | nil => intro ys h; cases ys with
    | nil => rfl
    | cons => cases h
  | cons x xs ih =>
    intro ys h
    cases ys with
    | nil => cases h
    | cons y ys =>
      simp only [List.map_cons, List.cons.injEq] at h
      rw [hU.inj t ht x y h.1, ih h.2]

theorem encB_inj {E : Env} (hU : UnivOK U E) {ls ls' : List Nat} : ∀ {bs : List Pb} {x y : BX U bs}, BsOK U bs → toH U (encB ls bs x) = toH U (encB ls' bs y) → x = y := by
  intro bs
  induction bs with
  | nil => intro x y _ _; rfl
  | cons b bs ih =>
    intro x y hk h
    cases b with
    | var e m p =>
      obtain ⟨a, x'⟩ := x
      obtain ⟨b, y'⟩ := y
      simp only [encB, toH, List.map_cons, List.cons.injEq, toBox, newBox, Box.mk.injEq, true_and, and_true] at h
      rw [encSp_inj hU hk.1 h.1, ih hk.2 h.2]
    | row t fresh =>
      obtain ⟨a, x'⟩ := x
      obtain ⟨b, y'⟩ := y
      simp only [encB, toH, List.map_cons, List.cons.injEq, toBox, Box.mk.injEq, true_and] at h
      rw [map_enc_inj hU hk.1 h.1.1, ih hk.2 h.2]
    | gone =>
      simp only [encB, toH, List.map_cons, List.cons.injEq, true_and] at h
      exact ih hk h

theorem Shape.enc_inj {E : Env} (hU : UnivOK U E) {s : Shape} (hk : s.OK U) {x y : s.X U} (h1 : toVs U (s.enc x).1 = toVs U (s.enc y).1) (h2 : toH U (s.enc x).2 = toH U (s.enc y).2) : x = y := by
  obtain ⟨a, b⟩ := x
  obtain ⟨a', b'⟩ := y
  have e2 := encB_inj hU hk.2 h2
  simp only at e2
  subst e2
  have e1 := encA_inj hU hk.1 h1
  simp only at e1
  rw [e1]

/-! ### such a function -/

variable (U)
structure HMod where
  fa : List (List Fk)
  fb : List Bf
  sin : Shape
  sout : Shape
  one : Bool
  ky : Nat
  toX : U.Ty ky → sout.X U
  fn : sin.X U → Option (U.Ty ky)
  ok : sin.OK U
variable {U}

def HMod.out (m : HMod U) (y : U.Ty m.ky) : SV U.Ty × SHeap U := ((if m.one then (m.sout.enc (m.toX y)).1.headD .und else .tup (m.sout.enc (m.toX y)).1), (m.sout.enc (m.toX y)).2)

open Classical in
noncomputable def HMod.spec (m : HMod U) : HSpec where
  fa := m.fa
  fb := m.fb
  run := fun as H0 => if h : ∃ x : m.sin.X U, toVs U (m.sin.enc x).1 = as ∧ toH U (m.sin.enc x).2 = H0 then (m.fn (Classical.choose h)).map fun y => (toV U (m.out y).1, toH U (m.out y).2) else none

theorem HMod.spec_run {E : Env} (hU : UnivOK U E) (m : HMod U) (x : m.sin.X U) : m.spec.run (toVs U (m.sin.enc x).1) (toH U (m.sin.enc x).2) = (m.fn x).map fun y => (toV U (m.out y).1, toH U (m.out y).2) := by
  have h : ∃ y : m.sin.X U, toVs U (m.sin.enc y).1 = toVs U (m.sin.enc x).1 ∧ toH U (m.sin.enc y).2 = toH U (m.sin.enc x).2 := ⟨x, rfl, rfl⟩
  simp only [HMod.spec, dif_pos h]
  rw [Shape.enc_inj hU m.ok (Classical.choose_spec h).1 (Classical.choose_spec h).2]

def callHT (m : HMod U) (as : List (SV U.Ty)) (H : SHeap U) : Tr U (SV U.Ty × SHeap U) :=
  (packS m.fa m.fb 0 as H).andThen fun r => match m.sin.dec (renFSs (r.1.idxOf ·) r.2.1) (subHS r.2.2 r.1) with
    | some x => (match x.2 with
      | [] => .bind m.ky (m.fn x.1) fun y => .when (r.1.length ≤ (m.out y).2.length) (.leaf (renFS (backN r.1 r.2.2.length) (m.out y).1, putBackS r.2.2 r.1 (m.out y).2))
      | c :: cs => .chk (andAll (c :: cs)) (.bind m.ky (m.fn x.1) fun y => .when (r.1.length ≤ (m.out y).2.length) (.leaf (renFS (backN r.1 r.2.2.length) (m.out y).1, putBackS r.2.2 r.1 (m.out y).2))))
    | none => .fail

theorem callHT_ok {E : Env} (hU : UnivOK U E) {m : HMod U} {as : List (SV U.Ty)} {H : SHeap U} {r : SV U.Ty × SHeap U} (h : (callHT m as H).Runs r) : callH m.spec (toVs U as) (toH U H) = some (toV U r.1, toH U r.2) := by
  simp only [callHT, runs_andThen] at h
  obtain ⟨p, hp, h⟩ := h
  have hp' := packS_ok hp
  split at h
  · rename_i x hx
    have key : (∀ b ∈ x.2, b = true) ∧ ∃ y, m.fn x.1 = some y ∧ p.1.length ≤ (m.out y).2.length ∧ r = (renFS (backN p.1 p.2.2.length) (m.out y).1, putBackS p.2.2 p.1 (m.out y).2) := by
      split at h
      · rename_i hnil
        simp only [Tr.Runs, runs_when] at h
        obtain ⟨y, h1, h2, h3⟩ := h
        exact ⟨by rw [hnil]; intro b hb; simp at hb, y, h1, h2, h3.symm⟩
      · rename_i c cs hcs
        simp only [Tr.Runs, runs_when] at h
        obtain ⟨hc, y, h1, h2, h3⟩ := h
        exact ⟨by rw [hcs]; exact andAll_mem hc, y, h1, h2, h3.symm⟩
    obtain ⟨hb, y, h1, h2, rfl⟩ := key
    obtain ⟨e1, e2⟩ := Shape.dec_ok hU hx hb
    rw [renFs_toV] at e1
    rw [subHS_toH] at e2
    unfold callH
    simp only [show m.spec.fa = m.fa from rfl, show m.spec.fb = m.fb from rfl, hp', e1, e2, HMod.spec_run hU, h1, Option.map_some, toH_length]
    rw [if_pos h2, renF_toV, putBackS_toH]
  · simp [Tr.Runs] at h

end

end Go.Proofs.YtpikcdlhgiooaaaGreat.Le

/-
  Functions of a program as functions of Lean: how what is proved of a tree becomes what a call comes to.
-/
namespace Go.Proofs.YtpikcdlhgiooaaaGreat.Le
set_option linter.unusedVariables false
open Go.RowKit (Below)

section
variable {U : Univ}

/-! ### arguments, models -/

def Args (U : Univ) : List Nat → Type
  | [] => Unit
  | t :: ts => U.Ty t × Args U ts

def encArgs : (ts : List Nat) → Args U ts → List V
  | [], _ => []
  | t :: ts, x => U.enc t x.1 :: encArgs ts x.2

def decArgs : (ts : List Nat) → List (SV U.Ty) → Option (Args U ts)
  | [], [] => some ()
  | t :: ts, v :: vs => match U.decS t v, decArgs ts vs with | some a, some as => some (a, as) | _, _ => none
  | _, _ => none

structure Mod (U : Univ) where
  ts : List Nat
  rt : Nat
  fn : Args U ts → Option (U.Ty rt)
  ok : ∀ t ∈ ts, t ∈ U.keys

def isPtrS : SV U.Ty → Bool
  | .ptr _ _ _ _ => true
  | .raw v => isPtrV v
  | _ => false
def showPS (H : SHeap U) : SV U.Ty → Tr U (SV U.Ty)
  | .ptr id i off tot => if i = 0 ∧ off = 0 ∧ tot = 1 then (match H[id]? with
      | some (.var _ n (.agg cs)) => .leaf (.raw (.ept n [.agg ((toVs U cs).map maskC)] 0 0))
      | some (.var _ n x) => (match scal x with | some z => .leaf (.raw (.ept n [.lit z] 0 0)) | none => .fail)
      | _ => .fail) else .fail
  | .raw _ => .fail
  | v => frzS H v
def showAllS (H : SHeap U) : List (SV U.Ty) → Tr U (List (SV U.Ty))
  | [] => .leaf []
  | v :: vs => (showPS H v).andThen fun w => (showAllS H vs).andThen fun ws => .leaf (w :: ws)
def isLitS : SV U.Ty → Bool
  | .lit _ | .si _ _ | .sb _ | .ss _ => true
  | _ => false
def flat1S : SV U.Ty → Bool
  | .lit _ | .si _ _ | .sb _ | .ss _ => true
  | .agg cs => cs.all isLitS
  | _ => false
def flatS : SV U.Ty → Bool
  | .tup vs => vs.all flat1S
  | v => flat1S v

theorem isPtrS_ok (x : SV U.Ty) : isPtrV (toV U x) = isPtrS x := by
  cases x <;> simp [isPtrS, isPtrV, toV]
theorem isPtrs_any (xs : List (SV U.Ty)) : (toVs U xs).any isPtrV = xs.any isPtrS := by
  induction xs with
  | nil => rfl
  | cons x xs ih => simp only [toVs, List.any_cons, ih, isPtrS_ok]
theorem isLitS_ok (x : SV U.Ty) (h : isLitS x = true) : isLitV (toV U x) = true := by
  cases x <;> simp_all [isLitS, isLitV, toV]
theorem isLitS_all (xs : List (SV U.Ty)) (h : xs.all isLitS = true) : (toVs U xs).all isLitV = true := by
  induction xs with
  | nil => rfl
  | cons x xs ih =>
    simp only [List.all_cons, Bool.and_eq_true] at h
    simp only [toVs, List.all_cons, Bool.and_eq_true]
    exact ⟨isLitS_ok x h.1, ih h.2⟩
theorem flat1S_ok (x : SV U.Ty) (h : flat1S x = true) : flat1 (toV U x) = true := by
  cases x <;> first | (simp [flat1S] at h; done) | (simp [flat1, toV]; done) | skip
  rename_i cs
  simp only [toV, flat1]
  exact isLitS_all cs h
theorem flat1S_all (xs : List (SV U.Ty)) (h : xs.all flat1S = true) : (toVs U xs).all flat1 = true := by
  induction xs with
  | nil => rfl
  | cons x xs ih =>
    simp only [List.all_cons, Bool.and_eq_true] at h
    simp only [toVs, List.all_cons, Bool.and_eq_true]
    exact ⟨flat1S_ok x h.1, ih h.2⟩
theorem flatS_ok (x : SV U.Ty) (h : flatS x = true) : flatV (toV U x) = true := by
  cases x <;> first | (simp [flatS, flat1S] at h; done) | (simp [flatV, flat1, toV]; done) | skip
  · rename_i cs
    simp only [toV, flatV, flat1]
    exact isLitS_all cs h
  · rename_i vs
    simp only [toV, flatV]
    exact flat1S_all vs h
theorem showPS_ok {H : SHeap U} {x y : SV U.Ty} (h : (showPS H x).Runs y) : showP (toH U H) (toV U x) = some (toV U y) := by
  unfold showPS at h
  split at h
  · rename_i id i off tot
    split at h
    · rename_i hz
      obtain ⟨rfl, rfl, rfl⟩ := hz
      split at h
      · rename_i e n cs hb
        simp only [Tr.Runs] at h
        subst h
        simp only [toV, showP, and_self, if_true, boxAt, toH_get, hb, Option.map_some, toBox, newBox]
        simp
      · rename_i e n x hb hna
        split at h
        · rename_i z hz
          simp only [Tr.Runs] at h
          subst h
          have hx : toV U x = .lit z := by cases x <;> simp_all [scal, toV]
          simp only [toV, showP, and_self, if_true, boxAt, toH_get, hna, Option.map_some, toBox, newBox, hx]
          simp
        · simp [Tr.Runs] at h
      · simp [Tr.Runs] at h
    · simp [Tr.Runs] at h
  · simp [Tr.Runs] at h
  · rename_i hn1 hn2
    unfold showP
    split
    · rename_i id i off tot hv
      exfalso
      cases x <;> simp [toV] at hv
      · exact hn1 _ _ _ _ rfl
      · exact hn2 _ rfl
    · exact frzS_ok h
theorem showAllS_ok {H : SHeap U} : ∀ {xs ys : List (SV U.Ty)}, (showAllS H xs).Runs ys → showAll (toH U H) (toVs U xs) = some (toVs U ys) := by
  intro xs
  induction xs with
  | nil => intro ys h; simp only [showAllS, Tr.Runs] at h; subst h; rfl
  | cons x xs ih =>
    intro ys h
    simp only [showAllS, runs_andThen, Tr.Runs] at h
    obtain ⟨w, h1, ws, h2, rfl⟩ := h
    simp only [toVs, showAll, showPS_ok h1, ih h2]

/-- Whether a function is given no boxes. -/
def rowM (hmods : FuncId → List FuncId → Option (HMod U)) (g : FuncId) : Bool := match hmods g [] with | some m => m.fb.all Bf.isRow | none => false

def mdlOf (mods : FuncId → Option (Mod U)) (hmods : FuncId → List FuncId → Option (HMod U)) (mk : FuncId → Option (List (Int × FuncId))) : Mdl U := fun g as H =>
  match mk g with
  | some l => (match as with | [x] => .when ((idsAS x).isEmpty = true) (.leaf (.mps (l.flatMap fun q => [.lit (.int .i64 q.1), .fn q.2 [x] []]), H)) | _ => .fail)
  | none =>
  match mods g with
  | some m => if as.any isPtrS then (showAllS H as).andThen fun as' => (match decArgs m.ts as' with
      | some x => .bind m.rt (m.fn x) fun r => .when (flatS (U.encS m.rt r) = true ∧ (as.flatMap idsAS).isEmpty = true) (.leaf (U.encS m.rt r, H))
      | none => .fail)
    else (frzAllS H as).andThen fun as' => (match decArgs m.ts as' with
    | some x => .bind m.rt (m.fn x) fun r => .leaf (U.encS m.rt r, bumpS H (as.flatMap idsAS))
    | none => .fail)
  | none => match hmods g (if rowM hmods g then [] else fnKeyS as) with
    | some m => callHT m as H
    | none => .fail

noncomputable def envH (hmods : FuncId → List FuncId → Option (HMod U)) : FuncId → List FuncId → Option HSpec := fun g k => (hmods g k).map HMod.spec

open Classical in
noncomputable def envOf (mods : FuncId → Option (Mod U)) : FuncId → Option (List V → Option V) := fun g =>
  match mods g with
  | some m => some fun as => if h : ∃ x : Args U m.ts, encArgs m.ts x = as then (m.fn (Classical.choose h)).map (U.enc m.rt) else none
  | none => none

theorem decArgs_ok {E : Env} (hU : UnivOK U E) : ∀ {ts : List Nat} {vs : List (SV U.Ty)} {x : Args U ts}, decArgs ts vs = some x → retypeAll E.rows ts (toVs U vs) = encArgs ts x := by
  intro ts
  induction ts with
  | nil =>
    intro vs x h
    cases vs with
    | nil => rfl
    | cons => simp [decArgs] at h
  | cons t ts ih =>
    intro vs x h
    cases vs with
    | nil => simp [decArgs] at h
    | cons v vs =>
      simp only [decArgs] at h
      split at h
      · rename_i a as h1 h2
        cases h
        simp only [toVs, retypeAll, encArgs, hU.dec _ _ _ h1, ih h2]
      · cases h

theorem encArgs_inj {E : Env} (hU : UnivOK U E) : ∀ {ts : List Nat} {x y : Args U ts}, (∀ t ∈ ts, t ∈ U.keys) → encArgs ts x = encArgs ts y → x = y := by
  intro ts
  induction ts with
  | nil => intro x y _ _; rfl
  | cons t ts ih =>
    intro x y hk h
    obtain ⟨x1, x2⟩ := x
    obtain ⟨y1, y2⟩ := y
    simp only [encArgs, List.cons.injEq] at h
    rw [hU.inj t (hk t (by simp)) _ _ h.1, ih (fun t' ht' => hk t' (by simp [ht'])) h.2]

theorem encArgs_noRef {E : Env} (hU : UnivOK U E) : ∀ {ts : List Nat} (x : Args U ts), noRefs (encArgs ts x) = true := by
  intro ts
  induction ts with
  | nil => intro x; rfl
  | cons t ts ih => intro x; simp [encArgs, noRefs, hU.nr, ih]

theorem envOf_at {E : Env} (hU : UnivOK U E) {mods : FuncId → Option (Mod U)} {g : FuncId} {m : Mod U} (hm : mods g = some m) {F : List V → Option V} (hF : envOf mods g = some F) (x : Args U m.ts) : F (encArgs m.ts x) = (m.fn x).map (U.enc m.rt) := by
  unfold envOf at hF
  simp only [hm, Option.some.injEq] at hF
  subst hF
  have h : ∃ y : Args U m.ts, encArgs m.ts y = encArgs m.ts x := ⟨x, rfl⟩
  simp only [dif_pos h]
  rw [encArgs_inj hU m.ok (Classical.choose_spec h)]

theorem mdlOf_ok {E : Env} (hU : UnivOK U E) {mods : FuncId → Option (Mod U)} {hmods : FuncId → List FuncId → Option (HMod U)} (henv : E.env = envOf mods) (hhm : E.hm = envH hmods) (hpu : ∀ g, E.pure g = false) (hpar : ∀ g m, mods g = some m → E.par g = m.ts)
    (hown : ∀ g, E.own g = none) (n : Nat) : MdlOK U (mdlOf mods hmods E.maps) (callD E (n + 1)) := by
  intro g as H v H' h
  unfold mdlOf at h
  cases hmk : E.maps g with
  | some l =>
    simp only [hmk] at h
    split at h
    · simp only [runs_when, Tr.Runs, Prod.mk.injEq] at h
      obtain ⟨hi, rfl, rfl⟩ := h
      unfold callD
      simp only [hmk, toVs, idsA_toV]
      rw [if_pos hi]
      simp only [toV, toVs_map, mkV, List.map_flatMap, List.map_cons, List.map_nil]
    · cases h
  | none =>
  simp only [hmk] at h
  cases hm : mods g with
  | none =>
    simp only [hm] at h
    have hne : E.env g = none := by rw [henv]; unfold envOf; simp [hm]
    split at h
    · rename_i m hmm
      have := callHT_ok hU h
      unfold callD
      simp only [hmk, hne, hpu g, Bool.false_eq_true, if_false]
      have hfr : rowF E g = rowM hmods g := by
        unfold rowF rowM
        rw [hmk, hne, hpu g, hhm]
        simp only [envH]
        cases hmods g [] <;> rfl
      have hk : E.hm g (if rowF E g then [] else fnKey (toVs U as)) = some m.spec := by rw [hfr, hhm, fnKeyS_toV]; simp only [envH, hmm, Option.map_some]
      simp only [hk, this]
    · simp [Tr.Runs] at h
  | some m =>
    simp only [hm] at h
    by_cases hq : as.any isPtrS = true
    · rw [if_pos hq] at h
      simp only [runs_andThen] at h
      obtain ⟨as', h1, h⟩ := h
      split at h
      · rename_i x hx
        simp only [Tr.Runs, runs_when, Prod.mk.injEq] at h
        obtain ⟨r, hr, ⟨hfl, hids⟩, rfl, rfl⟩ := h
        have hF : ∃ F, E.env g = some F := by rw [henv]; unfold envOf; simp [hm]
        obtain ⟨F, hF⟩ := hF
        have hat := envOf_at hU hm (by rw [← henv]; exact hF) x
        have hfl' := flatS_ok _ hfl
        rw [hU.encS] at hfl'
        have hids' : (toVs U as).flatMap idsA = [] := by rw [idsAs_toV]; simpa using hids
        unfold callD
        simp only [hmk, hF]
        rw [if_pos (by rw [isPtrs_any]; exact hq), showAllS_ok h1]
        simp only [hown g, hpar g m hm, decArgs_ok hU hx, hat, hr, Option.map_some]
        rw [if_pos hfl', hids', hU.encS]
        rfl
      · simp [Tr.Runs] at h
    rw [if_neg hq] at h
    simp only [runs_andThen] at h
    obtain ⟨as', h1, h⟩ := h
    split at h
    · rename_i x hx
      simp only [Tr.Runs, Prod.mk.injEq] at h
      obtain ⟨r, hr, rfl, rfl⟩ := h
      have hF : ∃ F, E.env g = some F := by rw [henv]; unfold envOf; simp [hm]
      obtain ⟨F, hF⟩ := hF
      have hat := envOf_at hU hm (by rw [← henv]; exact hF) x
      unfold callD
      simp only [hmk, hF]
      rw [if_neg (by rw [isPtrs_any]; exact hq)]
      simp only [frzAllS_ok h1, hown g, hpar g m hm, decArgs_ok hU hx, hat, hr, Option.map_some, idsAs_toV, bumpS_ok H _ (frzAllS_rows h1), hU.encS]
    · simp [Tr.Runs] at h

/-! ### what a call comes to -/

/-- What is known of a function. -/
structure FnOK (P : Program) (E : Env) (g : FuncId) (m : Mod U) : Prop where
  entered : Entered P g
  pure : ∀ x a, m.fn x = some a → PureFn P E g (encArgs m.ts x) (U.enc m.rt a)

theorem FnOK.glob {P : Program} {E E' : Env} (h : E'.glob = E.glob) {g : FuncId} {m : Mod U} (hf : FnOK P E g m) : FnOK P E' g m := by
  refine ⟨hf.entered, fun x a hx fz w vs hc hg hr => hf.pure x a hx fz w vs hc ?_ hr⟩
  intro g r hh
  exact hg g r (by rw [h]; exact hh)

/-- What is known of a function that is given boxes. -/
structure HFnOK (P : Program) (E : Env) (g : FuncId) (m : HMod U) : Prop where
  entered : Entered P g
  heap : ∀ x y, m.fn x = some y → HeapFn P E g (toVs U (m.sin.enc x).1) (toH U (m.sin.enc x).2) (toV U (m.out y).1) (toH U (m.out y).2)

theorem HFnOK.glob {P : Program} {E E' : Env} (h : E'.glob = E.glob) {g : FuncId} {m : HMod U} (hf : HFnOK P E g m) : HFnOK P E' g m := by
  refine ⟨hf.entered, fun x y hx B w0 σ w vs hnm hi hg hr => hf.heap x y hx B w0 σ w vs hnm hi ?_ hr⟩
  intro g r hh
  exact hg g r (by rw [h]; exact hh)

theorem envFns_of {P : Program} {E : Env} (hU : UnivOK U E) {mods : FuncId → Option (Mod U)} {hmods : FuncId → List FuncId → Option (HMod U)} (henv : E.env = envOf mods) (hhm : E.hm = envH hmods) (hown : ∀ g, E.own g = none) (h : ∀ g m, mods g = some m → FnOK P E g m)
    (h' : ∀ g k m, hmods g k = some m → HFnOK P E g m) (mk : Makers P) (hmk : E.maps = mk.tab) : EnvFns P E := by
  refine ⟨?_, fun g k hs hh => ?_, fun g => (by rw [hmk]; exact mk.ok g)⟩
  rotate_left
  · rw [hhm] at hh
    simp only [envH, Option.map_eq_some_iff] at hh
    obtain ⟨m, hm, rfl⟩ := hh
    refine ⟨(h' g k m hm).entered, fun as H0 r H1 hrun => ?_⟩
    simp only [HMod.spec] at hrun
    split at hrun
    · rename_i hx
      obtain ⟨x, rfl, rfl⟩ := hx
      simp only [Option.map_eq_some_iff] at hrun
      obtain ⟨y, hy, he⟩ := hrun
      simp only [Prod.mk.injEq] at he
      obtain ⟨rfl, rfl⟩ := he
      generalize hch : (⟨x, rfl, rfl⟩ : ∃ y : m.sin.X U, toVs U (m.sin.enc y).1 = toVs U (m.sin.enc x).1 ∧ toH U (m.sin.enc y).2 = toH U (m.sin.enc x).2) = hex at hy
      have hxe := Shape.enc_inj hU m.ok (Classical.choose_spec hex).1 (Classical.choose_spec hex).2
      rw [hxe] at hy
      exact (h' g k m hm).heap x y hy
    · cases hrun
  intro g F hF
  have hm : ∃ m, mods g = some m := by
    rw [henv] at hF
    unfold envOf at hF
    cases hm : mods g with
    | none => simp [hm] at hF
    | some m => exact ⟨m, rfl⟩
  obtain ⟨m, hm⟩ := hm
  refine ⟨(h g m hm).entered, fun as r _ hr => ?_⟩
  rw [hown g]
  have hF' := hF
  rw [henv] at hF
  unfold envOf at hF
  simp only [hm, Option.some.injEq] at hF
  subst hF
  simp only at hr
  split at hr
  · rename_i hx
    obtain ⟨x, hx'⟩ := hx
    subst hx'
    have := envOf_at hU hm (by rw [henv] at hF'; exact hF') x
    have hr' : (m.fn x).map (U.enc m.rt) = some r := by
      rw [← this]
      simp only [dif_pos (⟨x, rfl⟩ : ∃ y : Args U m.ts, encArgs m.ts y = encArgs m.ts x)]
      exact hr
    cases hfx : m.fn x with
    | none => simp [hfx] at hr'
    | some a =>
      simp only [hfx, Option.map_some, Option.some.injEq] at hr'
      subst hr'
      exact (h g m hm).pure x a hfx
  · cases hr

theorem pure_of_runs {P : Program} {E : Env} (hE : EnvOK E) (hP : E.P = P) (hF : EnvFns P E) {n : Nat} {f : FuncId} {fn : Func} (hfn : E.func f = some fn) {c : Code} (hb : fn.body = some c) {as : List V} {r : V} {H1 : Heap}
    (h : RunsV (callD E n) E f fn 0 (Zp E fn) (.run c) [] ⟨as ++ List.replicate (fn.ntmps - as.length) vundef, []⟩ (r, H1)) : Entered P f ∧ PureFn P E f as r := by
  obtain ⟨hf1, hf2⟩ := hE.func f fn hfn
  rw [hP] at hf1
  refine ⟨⟨fn, hf1, by simp [hb], hf2⟩, ?_⟩
  intro fz w vs hcells hg hr
  have hI : Inv w.heap.size (Start.of w fz) (bare fz) [] w := ⟨Below.refl _ w, Nat.le_refl _, fun id L hL => (by cases hL), fun id bx hb => by simp at hb, fun i j b1 b2 L1 L2 g h1 => by simp at h1, hcells,
    fun b c hc id bx L hb => by simp at hb, fun id bx hb => by simp at hb, fun b c hc _ => hc, fun b hb => hb.elim, ⟨fun id b hb => by simp at hb, fun id g h => (by cases h), fun id id' g h => (by cases h)⟩⟩
  have hslots : Reps (bare fz) w (as ++ List.replicate (fn.ntmps - as.length) vundef) (vs.toArray ++ Array.replicate (fn.ntmps - vs.toArray.size) undef).toList := by
    simp only [Array.toList_append, Array.toList_replicate, List.size_toArray]
    rw [← hr.length]
    exact hr.append (Reps.replicate _ (.no .nil))
  have hrel : Rel E w.heap.size (Start.of w fz) (bare fz) ⟨as ++ List.replicate (fn.ntmps - as.length) vundef, []⟩ { tmps := vs.toArray ++ Array.replicate (fn.ntmps - vs.toArray.size) undef, defers := [] } w := ⟨hI, hg, hslots, rfl⟩
  have hwp := runs_ok hE hP (callD_ok hE hP hF n w.heap.size (Start.of w fz)) (callD_calls n) (F := Fin P fn w.heap.size (Start.of w fz)) (σ0 := bare fz) (ws := w)
    (fun st r σ a w' hz hr hx => fin_ok hE hP hr (fun b c hh => (hx.fz b c hh).1) hz) h (hE.calm f fn c hfn hb) rfl _ _ _ hrel (Ext.refl _ _).k
  refine calls_of_wp hf1 hb ?_
  intro fr k cs
  obtain ⟨e, a', w', hq, harr⟩ := hwp fr k cs
  refine ⟨e, a', w', ?_, harr⟩
  cases e with
  | normal =>
    obtain ⟨h0, u, fz', h1, h2, h3, h4, h5, h6, h7⟩ := hq
    exact ⟨h0, u, h1, u, fz', rfl, h2, h3, h4, h5, h6, h7⟩
  | ret =>
    obtain ⟨h0, u, fz', h1, h2, h3, h4, h5, h6, h7⟩ := hq
    exact ⟨h0, u, h1, u, fz', rfl, h2, h3, h4, h5, h6, h7⟩
  | exit id => exact hq.elim
  | goto l => exact hq.elim
  | panic c => exact hq.elim
  | outgrown => exact hq.elim

theorem heap_of_runs {P : Program} {E : Env} (hE : EnvOK E) (hP : E.P = P) (hF : EnvFns P E) {n : Nat} {f : FuncId} {fn : Func} (hfn : E.func f = some fn) {c : Code} (hb : fn.body = some c) {as : List V} {H0 : Heap} {r : V} {H1 : Heap} {fa : List (List Fk)} {fb : List Bf} {k : Nat} (hk : H0.length = k)
    (h : RunsV (callD E n) E f fn k (Zh E fn fa fb k) (.run c) [] ⟨as ++ List.replicate (fn.ntmps - as.length) vundef, H0⟩ (r, H1)) : Entered P f ∧ HeapFn P E f as H0 r H1 := by
  obtain ⟨hf1, hf2⟩ := hE.func f fn hfn
  rw [hP] at hf1
  refine ⟨⟨fn, hf1, by simp [hb], hf2⟩, ?_⟩
  intro B w0 σ w vs hnm hI hg hr
  have hslots : Reps σ w (as ++ List.replicate (fn.ntmps - as.length) vundef) (vs.toArray ++ Array.replicate (fn.ntmps - vs.toArray.size) undef).toList := by
    simp only [Array.toList_append, Array.toList_replicate, List.size_toArray]
    rw [← hr.length]
    exact hr.append (Reps.replicate _ (.no .nil))
  have hrel : Rel E B w0 σ ⟨as ++ List.replicate (fn.ntmps - as.length) vundef, H0⟩ { tmps := vs.toArray ++ Array.replicate (fn.ntmps - vs.toArray.size) undef, defers := [] } w := ⟨hI, hg, hslots, rfl⟩
  have hwp := runs_ok hE hP (callD_ok hE hP hF n B w0) (callD_calls n) (F := FinH P fn B w0 σ w) (σ0 := σ) (ws := w)
    (fun st r σ' a w' hz hr hx => finH_ok hE hP (fun id L hL => by rw [← hk]; exact hI.dom_lt hL) hnm hr hx hz) h (hE.calm f fn c hfn hb) rfl _ _ _ hrel (Ext.refl _ _).k
  refine calls_of_wp hf1 hb ?_
  intro fr k cs
  obtain ⟨e, a', w', hq, harr⟩ := hwp fr k cs
  refine ⟨e, a', w', ?_, harr⟩
  cases e with
  | normal =>
    obtain ⟨h0, u, σ', h1, h2, h3, h4⟩ := hq
    exact ⟨h0, u, h1, u, σ', rfl, h2, h3, h4⟩
  | ret =>
    obtain ⟨h0, u, σ', h1, h2, h3, h4⟩ := hq
    exact ⟨h0, u, h1, u, σ', rfl, h2, h3, h4⟩
  | exit id => exact hq.elim
  | goto l => exact hq.elim
  | panic c => exact hq.elim
  | outgrown => exact hq.elim

/-! ### from trees to runs -/

theorem den_runs {L R : Type} {J : L → Option R} : ∀ {T : Tr U L} {r : R}, T.den J = some r → ∃ l, T.Runs l ∧ J l = some r := by
  intro T
  induction T with
  | leaf l => intro r h; exact ⟨l, rfl, h⟩
  | br c a b iha ihb =>
    intro r h
    cases c with
    | true => obtain ⟨l, h1, h2⟩ := iha h; exact ⟨l, .inl ⟨rfl, h1⟩, h2⟩
    | false => obtain ⟨l, h1, h2⟩ := ihb h; exact ⟨l, .inr ⟨rfl, h1⟩, h2⟩
  | bind t o k ih =>
    intro r h
    cases o with
    | none => cases h
    | some a => obtain ⟨l, h1, h2⟩ := ih a h; exact ⟨l, ⟨a, rfl, h1⟩, h2⟩
  | chk c a ih =>
    intro r h
    cases c with
    | true => obtain ⟨l, h1, h2⟩ := ih h; exact ⟨l, ⟨rfl, h1⟩, h2⟩
    | false => cases h
  | fail => intro r h; cases h

theorem runs_map {L M : Type} {g : L → M} : ∀ {T : Tr U L} {l : L}, T.Runs l → (T.map g).Runs (g l) := by
  intro T
  induction T with
  | leaf l => intro l h; simp only [Tr.Runs] at h; subst h; rfl
  | br c a b iha ihb =>
    intro l h
    rcases h with ⟨hc, h⟩ | ⟨hc, h⟩
    · exact .inl ⟨hc, iha h⟩
    · exact .inr ⟨hc, ihb h⟩
  | bind t o k ih => rintro l ⟨a, ha, h⟩; exact ⟨a, ha, ih a h⟩
  | chk c a ih => rintro l ⟨hc, h⟩; exact ⟨hc, ih h⟩
  | fail => intro l h; exact h

/-! ### code by its place -/

def nav : Code → List Nat → List Fr → Code × List Fr
  | .seq a b, 0 :: p, K => nav a p (.seq b :: K)
  | .seq a b, _ :: p, K => nav b p K
  | .cond _ a b, 0 :: p, K => nav a p K
  | .cond _ a b, _ :: p, K => nav b p K
  | .block id b, _ :: p, K => nav b p (.blk id :: K)
  | .loop b, _ :: p, K => nav b p (.loop b :: K)
  | .scope b, _ :: p, K => nav b p K
  | c, _, K => (c, K)

def bodyOf (fn : Func) : Code := match fn.body with | some c => c | none => .skip

/-! ### what loops come to -/

open Classical in
noncomputable def limO {α : Type} (g : Nat → Option α) : Option α := if h : ∃ n a, g n = some a then g (Classical.choose h) else none

theorem limO_some {α : Type} {g : Nat → Option α} {a : α} (h : limO g = some a) : ∃ n, g n = some a := by
  unfold limO at h
  split at h
  · exact ⟨_, h⟩
  · cases h

def Mono {α : Type} (g : Nat → Option α) : Prop := ∀ n a, g n = some a → g (n + 1) = some a

theorem Mono.le {α : Type} {g : Nat → Option α} (hg : Mono g) {n m : Nat} {a : α} (h : g n = some a) (hle : n ≤ m) : g m = some a := by
  induction hle with
  | refl => exact h
  | step _ ih => exact hg _ _ ih

theorem limO_eq {α : Type} {g : Nat → Option α} (hg : Mono g) {n : Nat} {a : α} (h : g n = some a) : limO g = some a := by
  unfold limO
  have hex : ∃ n a, g n = some a := ⟨n, a, h⟩
  rw [dif_pos hex]
  obtain ⟨b, hb⟩ := Classical.choose_spec hex
  have h1 := hg.le h (Nat.le_max_left n (Classical.choose hex))
  have h2 := hg.le hb (Nat.le_max_right n (Classical.choose hex))
  rw [hb]
  rw [h1] at h2
  exact h2.symm

end

abbrev w64 (x : Int) : Int := IntKind.wrap .i64 x

end Go.Proofs.YtpikcdlhgiooaaaGreat.Le

