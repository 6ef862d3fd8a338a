/-
  Symbolic values stand for values: scalars, literals, fields, indexes.
-/
import Derived.Test.YtcjccaonfgcakaaLe25
namespace Go.Proofs.Ytcjccaonfgcakaa.Le
set_option linter.unusedVariables false
set_option linter.unusedSimpArgs false

section
variable {U : Univ}

theorem asInt_toV {x : SV U.Ty} {k : IntKind} {a : Int} (h : asInt x = some (k, a)) : toV U x = .lit (.int k a) := by
  unfold asInt at h
  split at h <;> simp_all [toV]
theorem asStr_toV {x : SV U.Ty} {s : ByteArray} (h : asStr x = some s) : toV U x = .lit (.string s) := by
  unfold asStr at h
  split at h <;> simp_all [toV]
theorem asBool_toV {x : SV U.Ty} {b : Bool} (h : asBool x = some b) : toV U x = .lit (.bool b) := by
  unfold asBool at h
  split at h <;> simp_all [toV]
theorem okInt_toV {x : SV U.Ty} {n : Int} {l : Bool} (h : okInt x = some (n, l)) : ∃ k, toV U x = .lit (.int k n) := by
  unfold okInt at h
  split at h <;> simp_all [toV]

theorem intT_ok {op : BinOp} {k : IntKind} {a b : Int} {l : Bool} {y : SV U.Ty} (h : (intT op k a b l).Runs y) : (intOp op k a b).map V.lit = some (toV U y) := by
  unfold intT at h
  cases op <;> simp only [Tr.Runs] at h <;> (try (subst h; rfl)) <;> (try (exact h.elim))
  · split at h
    · split at h
      · simp [Tr.Runs] at h
      · rename_i hb
        simp only [Tr.Runs] at h
        subst h
        simp [intOp, hb, toV]
    · simp only [Tr.Runs, bne_iff_ne, ne_eq] at h
      obtain ⟨hb, rfl⟩ := h
      simp [intOp, hb, toV]
  · split at h
    · split at h
      · simp [Tr.Runs] at h
      · rename_i hb
        simp only [Tr.Runs] at h
        subst h
        simp [intOp, hb, toV]
    · simp only [Tr.Runs, bne_iff_ne, ne_eq] at h
      obtain ⟨hb, rfl⟩ := h
      simp [intOp, hb, toV]

theorem shiftT_ok {op : BinOp} {k : IntKind} {a b : Int} {l : Bool} {y : SV U.Ty} (h : (shiftT op k a b l).Runs y) : (shiftOp op k a b).map V.lit = some (toV U y) := by
  unfold shiftT at h
  split at h
  · simp [Tr.Runs] at h
  · rename_i r hr
    have key : ∀ (hb : ¬ b < 0) (hy : SV.si k r = y), (shiftOp op k a b).map V.lit = some (toV U y) := by
      intro hb hy
      subst hy
      unfold shiftOp
      unfold shiftV at hr
      split at hr <;> simp_all [toV]
    split at h
    · split at h
      · simp [Tr.Runs] at h
      · rename_i hb
        exact key hb h
    · simp only [Tr.Runs, decide_eq_true_eq] at h
      exact key (by omega) h.2

theorem strT_ok {op : BinOp} {x y : ByteArray} {z : SV U.Ty} (h : (strT op x y).Runs z) : (strOp op x y).map V.lit = some (toV U z) := by
  unfold strT at h
  cases op <;> simp only [Tr.Runs] at h <;> (try (subst h; rfl)) <;> (try (exact h.elim))
  obtain ⟨hb, rfl⟩ := h
  simp only [decide_eq_true_eq] at hb
  simp [strOp, hb, toV]

theorem eqCellsS_ok : ∀ {ks : List FK} {xs ys : List (SV U.Ty)} {r : Bool}, eqCellsS ks xs ys = some r → eqCells ks (toVs U xs) (toVs U ys) = some r := by
  intro ks
  induction ks with
  | nil =>
    intro xs ys r h
    unfold eqCellsS at h
    split at h <;> simp_all [toVs, eqCells]
  | cons k ks ih =>
    intro xs ys r h
    cases xs with
    | nil => cases k <;> simp [eqCellsS] at h
    | cons x xs =>
      cases ys with
      | nil => cases k <;> simp [eqCellsS] at h
      | cons y ys =>
        cases k with
        | b =>
          simp only [eqCellsS] at h
          split at h
          · rename_i a b r' h1 h2 h3
            simp only [Option.some.injEq] at h
            subst h
            simp only [toVs, asBool_toV h1, asBool_toV h2, eqCells, ih h3]
          · cases h
        | i k =>
          simp only [eqCellsS] at h
          split at h
          · rename_i k1 a k2 b r' h1 h2 h3
            split at h
            · rename_i hk
              simp only [Option.some.injEq] at h
              subst h
              simp only [toVs, asInt_toV h1, asInt_toV h2, eqCells, ih h3, hk, and_self, if_true]
            · cases h
          · cases h
        | s =>
          simp only [eqCellsS] at h
          split at h
          · rename_i a b r' h1 h2 h3
            simp only [Option.some.injEq] at h
            subst h
            simp only [toVs, asStr_toV h1, asStr_toV h2, eqCells, ih h3]
          · cases h

theorem binT_ok {E : Env} {op : BinOp} {t : TypeId} {x y z : SV U.Ty} (h : (binT E op t x y).Runs z) : binD E op t (toV U x) (toV U y) = some (toV U z) := by
  unfold binT at h
  split at h
  · rename_i xs ys
    split at h
    · rename_i ks hks
      split at h
      · rename_i b hb
        have := eqCellsS_ok hb
        split at h
        · simp only [Tr.Runs] at h
          subst h
          simp only [toV, binD, hks, this, Option.map_some]
        · simp only [Tr.Runs] at h
          subst h
          simp only [toV, binD, hks, this, Option.map_some]
        · simp [Tr.Runs] at h
      · simp [Tr.Runs] at h
    · simp [Tr.Runs] at h
  · split at h
    · rename_i k a j b ha hb
      rw [asInt_toV ha, asInt_toV hb]
      split at h
      · exact shiftT_ok h
      · exact shiftT_ok h
      · rename_i h1 h2
        split at h
        · rename_i hk
          have hi := intT_ok h
          subst hk
          have hb : binD E op t (.lit (.int k a)) (.lit (.int k b)) = (intOp op k a b).map V.lit := by
            cases op <;> first | exact absurd rfl h1 | exact absurd rfl h2 | simp [binD]
          rw [hb]
          exact hi
        · simp [Tr.Runs] at h
    · split at h
      · rename_i a b ha hb
        rw [asStr_toV ha, asStr_toV hb]
        have := strT_ok h
        unfold binD
        split <;> simp_all
      · split at h
        · rename_i a b ha hb
          rw [asBool_toV ha, asBool_toV hb]
          split at h
          · rename_i hE
            split at h
            · simp only [Tr.Runs] at h
              subst h
              simp [binD, hE, toV]
            · simp only [Tr.Runs] at h
              subst h
              simp [binD, hE, toV]
            · simp [Tr.Runs] at h
          · simp [Tr.Runs] at h
        · simp [Tr.Runs] at h

theorem unT_ok {op : UnOp} {x z : SV U.Ty} (h : (unT op x).Runs z) : unD op (toV U x) = some (toV U z) := by
  unfold unT at h
  split at h
  · rename_i k n hk
    simp only [Tr.Runs] at h
    subst h
    rw [asInt_toV hk]
    rfl
  · rename_i k n hk
    simp only [Tr.Runs] at h
    subst h
    rw [asInt_toV hk]
    rfl
  · rename_i b _ hb
    simp only [Tr.Runs] at h
    subst h
    rw [asBool_toV hb]
    rfl
  · simp [Tr.Runs] at h

theorem mmT_ok {isMax : Bool} {k : IntKind} : ∀ {xs : List (SV U.Ty)} {a r : Int}, mmT isMax k a xs = some r → mm isMax k a (toVs U xs) = some (.lit (.int k r)) := by
  intro xs
  induction xs with
  | nil => intro a r h; simp only [mmT, Option.some.injEq] at h; subst h; rfl
  | cons x xs ih =>
    intro a r h
    simp only [mmT] at h
    split at h
    · rename_i j b hj
      split at h
      · rename_i hk
        simp only [toVs, asInt_toV hj, mm, hk, if_true]
        exact hk ▸ ih h
      · cases h
    · cases h

theorem minmaxT_ok {isMax : Bool} {xs : List (SV U.Ty)} {z : SV U.Ty} (h : (minmaxT isMax xs).Runs z) : minmax isMax (toVs U xs) = some (toV U z) := by
  unfold minmaxT at h
  split at h
  · rename_i x rest
    split at h
    · rename_i k a hk
      split at h
      · rename_i r hr
        simp only [Tr.Runs] at h
        subst h
        simp only [toVs, asInt_toV hk, minmax, toV]
        exact mmT_ok hr
      · simp [Tr.Runs] at h
    · simp [Tr.Runs] at h
  · simp [Tr.Runs] at h

/-! ### literals -/

def partsV (parts : List (Nat × SV U.Ty)) : List (Nat × V) := parts.map fun (i, x) => (i, toV U x)

theorem fillS_ok {place : Nat → Option (Nat × Nat)} : ∀ {parts : List (Nat × SV U.Ty)} {cs cs' : List (SV U.Ty)}, fillS cs parts place = some cs' → fillV (toVs U cs) (partsV parts) place = some (toVs U cs') := by
  intro parts
  induction parts with
  | nil => intro cs cs' h; simp only [fillS, Option.some.injEq] at h; subst h; rfl
  | cons p parts ih =>
    intro cs cs' h
    obtain ⟨i, v⟩ := p
    simp only [fillS] at h
    split at h
    · cases h
    · rename_i off size hp
      split at h
      · rename_i hc
        simp only [Bool.and_eq_true, beq_iff_eq, decide_eq_true_eq] at hc
        obtain ⟨⟨h1, h2⟩, h3⟩ := hc
        have := ih h
        simp only [partsV, List.map_cons, fillV, hp]
        rw [cells_toV h3, length_toVs, h1, length_toVs, okS_okV h3]
        simp only [beq_self_eq_true, h2, decide_true, Bool.and_self, if_true]
        rw [← this]
        simp only [partsV, toVs_map, List.map_append, List.map_take, List.map_drop]
      · cases h

theorem cells_toV' {x : SV U.Ty} (h : ∀ cs, x ≠ .raw (.agg cs)) : (toV U x).cells = toVs U (cellsS x) := by
  cases x with
  | raw v =>
    cases v with
    | agg cs => exact absurd rfl (h cs)
    | _ => rfl
  | _ => rfl

theorem ofV_cells {z : V} : toVs U (cellsS (ofV U z)) = z.cells := by
  have hr : ∀ cs, ofV U z ≠ .raw (.agg cs) := by
    intro cs hcs
    unfold ofV at hcs
    split at hcs
    · cases hcs
    · rename_i hne
      unfold ofV1 at hcs
      split at hcs <;> (try cases hcs)
      simp at hne
  rw [← cells_toV' hr, toV_ofV]

theorem buildT_ok {E : Env} {t : TypeId} {parts : List (Nat × SV U.Ty)} {y : SV U.Ty} (h : buildT E t parts = some y) : buildD E t (partsV parts) = some (toV U y) := by
  unfold buildT at h
  unfold buildD
  split at h
  · rename_i i hi
    rw [hi]
    split at h
    · rename_i z hz
      simp only [hz]
      split at h
      · rename_i hok
        rw [if_pos hok]
        split at h
        · rename_i fs hty
          simp only [hty]
          split at h
          · rename_i hall
            rw [if_pos hall]
            cases hf : fillS (cellsS (ofV U z)) parts (placesOf E fs) with
            | none => simp [hf] at h
            | some cs =>
              simp only [hf, Option.map_some, Option.some.injEq] at h
              subst h
              have := fillS_ok hf
              rw [ofV_cells] at this
              simp only [this, Option.map_some, toV]
          · cases h
        · rename_i len e hty
          simp only [hty]
          split at h
          · rename_i ei hei
            simp only [hei]
            cases hf : fillS (cellsS (ofV U z)) parts (fun i => some (i * ei.size, ei.size)) with
            | none => simp [hf] at h
            | some cs =>
              simp only [hf, Option.map_some, Option.some.injEq] at h
              subst h
              have := fillS_ok hf
              rw [ofV_cells] at this
              simp only [this, Option.map_some, toV]
          · cases h
        · cases h
      · cases h
    · cases h
  · cases h

theorem decAll_ok {E : Env} (hU : UnivOK U E) {e : Nat} : ∀ {vs : List (SV U.Ty)} {ys : List (U.Ty e)}, decAll e vs = some ys → (toVs U vs).map (retype (E.rows e)) = ys.map (U.enc e) ∧ ∀ v ∈ vs, okS v = true := by
  intro vs
  induction vs with
  | nil => intro ys h; simp only [decAll, Option.some.injEq] at h; subst h; simp [toVs]
  | cons v vs ih =>
    intro ys h
    simp only [decAll] at h
    split at h
    · rename_i a as h1 h2 h3
      simp only [Option.some.injEq] at h
      subst h
      obtain ⟨i1, i2⟩ := ih h3
      refine ⟨by simp only [toVs, List.map_cons, i1, hU.dec _ _ _ h2], ?_⟩
      intro x hx
      rcases List.mem_cons.1 hx with hx | hx
      · rw [hx]; exact h1
      · exact i2 x hx
    · cases h

theorem fillE_full (sz : Nat) : ∀ (vs pre post : List V), (∀ v ∈ vs, v.cells.length = sz ∧ okV v = true) → vs.length ≤ post.length →
    fillE (pre ++ post) sz ((List.range' pre.length vs.length).zip vs) = some (pre ++ vs ++ post.drop vs.length) := by
  intro vs
  induction vs with
  | nil => intro pre post _ _; simp [fillE]
  | cons v vs ih =>
    intro pre post h hl
    cases post with
    | nil => simp at hl
    | cons p post =>
      simp only [List.length_cons, List.range'_succ, List.zip_cons_cons, fillE]
      obtain ⟨h1, h2⟩ := h v (by simp)
      have hset : (pre ++ p :: post).set pre.length v = (pre ++ [v]) ++ post := by simp
      have := ih (pre ++ [v]) post (fun x hx => h x (by simp [hx])) (by simpa using hl)
      rw [List.length_append, List.length_singleton] at this
      rw [h1, h2, hset, this]
      simp

theorem buildSliceT_ok {E : Env} (hU : UnivOK U E) {k : Nat} {H H' : SHeap U} {t : TypeId} {n : Nat} {parts : List (Nat × SV U.Ty)} {y : SV U.Ty} (h : (buildSliceT E k H t n parts).Runs (y, H')) :
    buildSliceD E k (toH U H) t n (partsV parts) = some (toV U y, toH U H') := by
  unfold buildSliceT at h
  unfold buildSliceD
  split at h
  · rename_i e sz by' z0 hti
    rw [hti]
    simp only
    split at h
    · rename_i ei hei
      simp only [hei]
      split at h
      · rename_i z hz
        simp only [runs_andThen] at h
        obtain ⟨vs, hvs, h⟩ := h
        split at h
        · rename_i ys hys
          simp only [runs_when, Tr.Runs, Prod.mk.injEq] at h
          obtain ⟨⟨⟨c1, c2, c3, c4⟩, c5, c6, c7⟩, rfl, rfl⟩ := h
          have hp2 : (partsV parts).map (·.2) = toVs U (parts.map (·.2)) := by
            rw [toVs_map]; simp [partsV]
          have hp1 : (partsV parts).map (·.1) = List.range n := by rw [← c5]; simp [partsV]
          obtain ⟨d1, d2⟩ := decAll_ok hU hys
          have hf := frzAllS_ok hvs
          have hlen : (toVs U vs).length = n := by
            rw [← frzAll_length hf, length_toVs, List.length_map, ← List.length_map (f := (·.1)) (as := parts), c5, List.length_range]
          have hlen' : (ys.map (U.enc e)).length = n := by rw [← d1, List.length_map, hlen]
          have hempty : (n == 0 && !(partsV parts).isEmpty) = false := by
            cases hn : n with
            | zero =>
              have : parts = [] := by
                have := congrArg List.length c5
                rw [hn] at this
                simpa using this
              simp [this, partsV]
            | succ m => simp
          rw [hz, hp2, hf]
          simp only
          rw [if_pos ⟨c1, c2, c3, c4, hempty⟩, hp1, d1]
          have hfull := fillE_full ei.size (ys.map (U.enc e)) [] (List.replicate n (retype (E.rows e) z)) (by
            intro v hv
            rw [← d1] at hv
            obtain ⟨w, hw, rfl⟩ := List.mem_map.1 hv
            rw [toVs_map] at hw
            obtain ⟨s, hs, rfl⟩ := List.mem_map.1 hw
            have hok := d2 s hs
            rw [retype_ok, retype_len]
            refine ⟨?_, okS_okV hok⟩
            rw [cells_toV hok, length_toVs]
            simpa using List.all_eq_true.1 c6 s hs) (by rw [hlen']; simp)
          rw [hlen'] at hfull
          simp only [List.length_nil, List.nil_append] at hfull
          rw [show List.range n = List.range' 0 n from List.range_eq_range' .., hfull]
          have hdrop : List.drop n (List.replicate n (retype (E.rows e) z)) = [] := by simp
          rw [hdrop, List.append_nil, toH_place, idsAs_toV, bumpS_ok H _ (frzAllS_rows hvs)]
          simp [toV, toBox, newBox, c7]
        · simp [Tr.Runs] at h
      · simp [Tr.Runs] at h
    · simp [Tr.Runs] at h
  · simp [Tr.Runs] at h

/-! ### fields, indexes -/

theorem fieldAddrT_ok {E : Env} {s : TypeId} {x y : SV U.Ty} {f : Nat} (h : fieldAddrT E s x f = some y) : fieldAddrD E s (toV U x) f = some (toV U y) := by
  unfold fieldAddrT at h
  unfold fieldAddrD
  split at h
  · rename_i fs sz by' z0 hti
    rw [hti]
    simp only
    split at h
    · rename_i o t ho
      rw [ho]
      simp only
      split at h
      · rename_i n hn
        simp only [hn]
        split at h
        · cases h
        · rename_i hz
          rw [if_neg hz]
          split at h
          · simp only [Option.some.injEq] at h; subst h; rfl
          · simp only [Option.some.injEq] at h; subst h; rfl
          · cases h
      · cases h
    · cases h
  · cases h

theorem fieldT_ok {E : Env} {s : TypeId} {x y : SV U.Ty} {f : Nat} (h : fieldT E s x f = some y) : fieldD E s (toV U x) f = some (toV U y) := by
  unfold fieldT at h
  unfold fieldD
  split at h
  · rename_i fs sz by' z0 cs hti
    rw [hti]
    simp only [toV]
    split at h
    · rename_i o t ho
      rw [ho]
      simp only
      split at h
      · rename_i i hi
        simp only [hi, partS_ok, h, Option.map_some]
      · cases h
    · cases h
  · cases h

theorem pickIdx_runs {L : Type} {n : Int} {lit : Bool} {len : Nat} {k : Nat → Tr U L} {y : L} (h : (pickIdx n lit len k).Runs y) : (0 ≤ n ∧ n < len) ∧ (k n.toNat).Runs y := by
  unfold pickIdx at h
  split at h
  · split at h
    · rename_i hn; exact ⟨hn, h⟩
    · simp [Tr.Runs] at h
  · revert h
    suffices hh : ∀ l : List Nat, (∀ i ∈ l, i < len) → (l.foldr (fun (i : Nat) rest => Tr.br (n == (i : Int)) (k i) rest) .fail).Runs y → (0 ≤ n ∧ n < len) ∧ (k n.toNat).Runs y from
      fun h => hh _ (fun i hi => by simpa using hi) h
    intro l
    induction l with
    | nil => intro _ h; simp [Tr.Runs] at h
    | cons i l ih =>
      intro hl h
      simp only [List.foldr_cons, Tr.Runs, beq_iff_eq] at h
      rcases h with ⟨hn, hr⟩ | ⟨_, hr⟩
      · have := hl i (by simp)
        have hi : n.toNat = i := by omega
        rw [hi]
        exact ⟨by omega, hr⟩
      · exact ih (fun j hj => hl j (by simp [hj])) hr

theorem indexAddrT_ok {E : Env} {H : SHeap U} {t : TypeId} {x i y : SV U.Ty} (h : (indexAddrT E H t x i).Runs y) : indexAddrD E (toH U H) t (toV U x) (toV U i) = some (toV U y) := by
  unfold indexAddrT at h
  unfold indexAddrD
  split at h
  · rename_i kk n ti hn hti
    rw [asInt_toV hn, hti]
    simp only
    split at h
    · rename_i el hty
      simp only [hty]
      split at h
      · rename_i et xs
        simp only [runs_when, Tr.Runs, decide_eq_true_eq] at h
        obtain ⟨h1, h2, rfl⟩ := h
        simp only [toV, List.length_map, h2, h1, and_self, if_true]
      · rename_i et xs
        simp only [runs_when, Tr.Runs, decide_eq_true_eq] at h
        obtain ⟨h1, h2, rfl⟩ := h
        simp only [toV, List.length_map, h2, h1, and_self, if_true]
      · rename_i id m
        obtain ⟨et, xs, fl, r1, r2, r3, r4⟩ := rowAt_runs h
        simp only [runs_when, Tr.Runs, decide_eq_true_eq] at r3
        obtain ⟨h1, h2, rfl⟩ := r3
        simp only [toV, r4, toBox, h2, h1, and_self, if_true, Nat.zero_add]
      · rename_i id off len tot
        obtain ⟨et, xs, fl, r1, r2, r3, r4⟩ := rowAt_runs h
        simp only [runs_when, Tr.Runs, decide_eq_true_eq] at r3
        obtain ⟨h1, h2, rfl⟩ := r3
        simp only [toV, r4, toBox, h2, h1, and_self, if_true]
      · simp [Tr.Runs] at h
    · rename_i len e hty
      simp only [hty]
      split at h
      · simp [Tr.Runs] at h
      · rename_i sz hsz
        split at h
        · obtain ⟨hb, h⟩ := pickIdx_runs h
          simp only [Tr.Runs] at h
          subst h
          simp only [toV, hsz, hb, and_self, if_true]
        · obtain ⟨hb, h⟩ := pickIdx_runs h
          simp only [Tr.Runs] at h
          subst h
          simp only [toV, hsz, hb, and_self, if_true]
        · obtain ⟨hb, h⟩ := pickIdx_runs h
          simp only [Tr.Runs] at h
          subst h
          simp only [toV, hsz, hb, and_self, if_true]
        · simp [Tr.Runs] at h
    · simp [Tr.Runs] at h
  · simp [Tr.Runs] at h

theorem get_bang {s : ByteArray} {n : Nat} (h : n < s.size) : s[n]? = some (s.get! n) := by
  rw [getElem?_pos s n h]
  cases s with
  | mk d => 
    have hd : n < d.size := h
    show some d[n] = some d[n]!
    rw [getElem!_pos d n hd]

theorem indexT_ok {E : Env} {t : TypeId} {x i y : SV U.Ty} (h : (indexT E t x i).Runs y) : indexD E t (toV U x) (toV U i) = some (toV U y) := by
  unfold indexT at h
  unfold indexD
  split at h
  · rename_i kk n hn
    rw [asInt_toV hn]
    simp only
    split at h
    · rename_i len e sz by' z0 cs hti
      rw [hti]
      simp only [toV]
      split at h
      · rename_i ei hei
        obtain ⟨hb, h⟩ := pickIdx_runs h
        rw [runs_opt] at h
        simp only [hei, hb, and_self, if_true, partS_ok, h, Option.map_some]
      · simp [Tr.Runs] at h
    · rename_i sz by' z0 hti
      rw [hti]
      split at h
      · rename_i s hs
        rw [asStr_toV hs]
        split at h
        · rename_i hE
          simp only [Tr.Runs, decide_eq_true_eq] at h
          obtain ⟨⟨h1, h2⟩, rfl⟩ := h
          have hlt : n.toNat < s.size := by omega
          simp only [hE, h1, if_true, get_bang hlt, Option.map_some, toV]
        · simp [Tr.Runs] at h
      · simp [Tr.Runs] at h
    · simp [Tr.Runs] at h
  · simp [Tr.Runs] at h

theorem convT_ok {E : Env} {H : Heap} {src dst : TypeId} {x y : SV U.Ty} (h : (convT E src dst x).Runs y) : convD E H src dst (toV U x) = some (toV U y, H) := by
  unfold convT at h
  split at h
  · rename_i k n hn
    rw [asInt_toV hn]
    unfold convD
    split at h
    · rename_i j hj
      simp only [hj]
      split at h
      · rename_i hs
        simp only [Tr.Runs] at h
        subst h
        simp [hs, toV]
      · simp [Tr.Runs] at h
    · simp [Tr.Runs] at h
  · split at h
    · rename_i s hs
      rw [asStr_toV hs]
      unfold convD
      split at h
      · rename_i hb
        simp only [Tr.Runs] at h
        subst h
        simp only [Bool.and_eq_true] at hb
        simp [hb, toV]
      · simp [Tr.Runs] at h
    · simp [Tr.Runs] at h

end

end Go.Proofs.Ytcjccaonfgcakaa.Le
