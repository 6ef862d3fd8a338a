/-
  Symbolic values stand for values: freezing, reading, writing.
-/
import Derived.Test.YtcjccaonfgcakaaLe24
namespace Go.Proofs.Ytcjccaonfgcakaa.Le
set_option linter.unusedVariables false
set_option linter.unusedSimpArgs false

structure UnivOK (U : Univ) (E : Env) : Prop where
  encS : ∀ t a, toV U (U.encS t a) = U.enc t a
  dec : ∀ t v a, U.decS t v = some a → retype (E.rows t) (toV U v) = U.enc t a
  cells : ∀ t a, (U.enc t a).cells = toVs U (cellsS (U.encS t a))
  nr : ∀ t a, noRef (U.enc t a) = true
  inj : ∀ t ∈ U.keys, ∀ a b, U.enc t a = U.enc t b → a = b

section
variable {U : Univ}

theorem toVs_map (xs : List (SV U.Ty)) : toVs U xs = xs.map (toV U) := by
  induction xs with
  | nil => rfl
  | cons x xs ih => simp [toVs, ih]

theorem toVs_getD (s : List (SV U.Ty)) (t : Nat) : (toVs U s).getD t .und = toV U (s.getD t .und) := by
  rw [toVs_map]
  simp only [List.getD, List.getElem?_map]
  cases s[t]? <;> rfl

theorem toV_ofV1 (v : V) : toV U (ofV1 U v) = v := by
  unfold ofV1
  split <;> rfl

theorem toV_ofV (v : V) : toV U (ofV U v) = v := by
  unfold ofV
  split
  · rename_i cs
    simp only [toV, toVs_map, List.map_map, V.agg.injEq]
    conv => rhs; rw [← List.map_id cs]
    apply List.map_congr_left
    intro x _
    exact toV_ofV1 x
  · exact toV_ofV1 _

theorem ev_toV (E : Env) (s : List (SV U.Ty)) (x : Operand) : ev E (toVs U s) x = toV U (evS E s x) := by
  cases x with
  | tmp t => exact toVs_getD s t
  | const v => simp only [ev, evS, toV_ofV]
  | func f => rfl
  | global g => simp only [ev, evS]; cases E.glob g <;> rfl

theorem evs_toV (E : Env) (s : List (SV U.Ty)) (xs : List Operand) : xs.map (ev E (toVs U s)) = toVs U (xs.map (evS E s)) := by
  rw [toVs_map (xs.map (evS E s)), List.map_map]
  apply List.map_congr_left
  intro x _
  exact ev_toV E s x

theorem set_toV (s : List (SV U.Ty)) (d : Option Tmp) (v : SV U.Ty) : toVs U (setS s d v) = setSlot (toVs U s) d (toV U v) := by
  unfold setS setSlot
  cases d with
  | none => rfl
  | some t => simp only [toVs_map, List.map_set]

theorem toH_length (H : SHeap U) : (toH U H).length = H.length := by simp [toH]
theorem toH_get (H : SHeap U) (i : Nat) : (toH U H)[i]? = (H[i]?).map (toBox U) := by simp [toH]
theorem toH_set (H : SHeap U) (i : Nat) (b : SBox U.Ty) : toH U (H.set i b) = (toH U H).set i (toBox U b) := by simp [toH, List.map_set]
theorem toH_place (H : SHeap U) (k : Nat) (b : SBox U.Ty) : toH U (placeS H k b) = place (toH U H) k (toBox U b) := by
  unfold placeS place
  rw [toH_length]
  split
  · exact toH_set H k b
  · simp [toH]

theorem map_congr_get {α β : Type} {f g : α → β} (l : List α) (h : ∀ x, f x = g x) : l.map f = l.map g := by
  rw [funext h]

theorem bumpBox_ok (b : SBox U.Ty) : toBox U (bumpBox b) = { toBox U b with floor := if (toBox U b).row then (toBox U b).xs.length else (toBox U b).floor } := by
  cases b <;> simp [bumpBox, toBox, newBox, deadBox]

theorem okS_okV {x : SV U.Ty} (h : okS x = true) : okV (toV U x) = true := by
  cases x <;> simp_all [okS, toV, okV]
  rename_i v
  cases v <;> simp_all [okS]

theorem cells_toV {x : SV U.Ty} (h : okS x = true) : (toV U x).cells = toVs U (cellsS x) := by
  cases x <;> simp_all [okS, toV, V.cells, cellsS, toVs]
  rename_i v
  cases v <;> simp_all [okS, V.cells]

/-! ### trees -/

theorem runs_andThen {L M : Type} (T : Tr U L) (f : L → Tr U M) (y : M) : (T.andThen f).Runs y ↔ ∃ x, T.Runs x ∧ (f x).Runs y := by
  induction T with
  | leaf l => simp [Tr.andThen, Tr.Runs]
  | br c a b iha ihb =>
    simp only [Tr.andThen, Tr.Runs, iha, ihb]
    constructor
    · rintro (⟨h, x, h1, h2⟩ | ⟨h, x, h1, h2⟩)
      · exact ⟨x, .inl ⟨h, h1⟩, h2⟩
      · exact ⟨x, .inr ⟨h, h1⟩, h2⟩
    · rintro ⟨x, (⟨h, h1⟩ | ⟨h, h1⟩), h2⟩
      · exact .inl ⟨h, x, h1, h2⟩
      · exact .inr ⟨h, x, h1, h2⟩
  | bind t o k ih =>
    simp only [Tr.andThen, Tr.Runs, ih]
    constructor
    · rintro ⟨a, h, x, h1, h2⟩; exact ⟨x, ⟨a, h, h1⟩, h2⟩
    · rintro ⟨x, ⟨a, h, h1⟩, h2⟩; exact ⟨a, h, x, h1, h2⟩
  | chk c a ih =>
    simp only [Tr.andThen, Tr.Runs, ih]
    constructor
    · rintro ⟨h, x, h1, h2⟩; exact ⟨x, ⟨h, h1⟩, h2⟩
    · rintro ⟨x, ⟨h, h1⟩, h2⟩; exact ⟨h, x, h1, h2⟩
  | fail => simp [Tr.andThen, Tr.Runs]

theorem runs_opt {L : Type} {o : Option L} {x : L} : (Tr.opt (U := U) o).Runs x ↔ o = some x := by
  cases o <;> simp [Tr.opt, Tr.Runs]

theorem runs_when {L : Type} {p : Prop} [Decidable p] {a : Tr U L} {x : L} : (Tr.when p a).Runs x ↔ p ∧ a.Runs x := by
  unfold Tr.when
  split <;> simp_all [Tr.Runs]

theorem rowAt_runs {L : Type} {H : SHeap U} {id tot : Nat} {k : (t : Nat) → List (U.Ty t) → Option Nat → Tr U L} {y : L} (h : (rowAt H id tot k).Runs y) :
    ∃ t xs fl, H[id]? = some (.row t xs fl) ∧ xs.length = tot ∧ (k t xs fl).Runs y ∧ boxAt (toH U H) id tot = some (toBox U (.row t xs fl)) := by
  unfold rowAt at h
  split at h
  · rename_i t xs fl hb
    simp only [Tr.Runs, beq_iff_eq] at h
    refine ⟨t, xs, fl, hb, h.1, h.2, ?_⟩
    unfold boxAt
    rw [toH_get, hb]
    simp [toBox, h.1]
  · simp [Tr.Runs] at h

/-! ### freezing -/

theorem frz0S_ok {H : SHeap U} {x y : SV U.Ty} (h : (frz0S H x).Runs y) : frz0 (toH U H) (toV U x) = some (toV U y) := by
  unfold frz0S at h
  split at h <;> (try (simp only [Tr.Runs] at h; subst h; rfl))
  · obtain ⟨t, xs, fl, h1, h2, h3, h4⟩ := rowAt_runs h
    simp only [Tr.Runs] at h3
    subst h3
    subst h2
    simp only [toV, frz0, h4]
    simp only [toBox, Nat.zero_add, Nat.le_refl, decide_true, Bool.and_self, if_true, List.drop_zero, Option.some.injEq, V.sl.injEq, true_and]
    exact List.take_of_length_le (by simp)
  · obtain ⟨t, xs, fl, h1, h2, h3, h4⟩ := rowAt_runs h
    simp only [Tr.Runs, decide_eq_true_eq] at h3
    obtain ⟨h3, rfl⟩ := h3
    simp only [toV, frz0, h4]
    simp [toBox, h3, List.map_take, List.map_drop]
  · simp [Tr.Runs] at h

theorem frzLS_ok {H : SHeap U} : ∀ {xs ys : List (SV U.Ty)}, (frzLS H xs).Runs ys → frzL (toH U H) (toVs U xs) = some (toVs U ys) := by
  intro xs
  induction xs with
  | nil => intro ys h; simp only [frzLS, Tr.Runs] at h; subst h; rfl
  | cons x xs ih =>
    intro ys h
    simp only [frzLS, runs_andThen, Tr.Runs] at h
    obtain ⟨w, h1, ws, h2, rfl⟩ := h
    simp only [toVs, frzL, frz0S_ok h1, ih h2]

theorem frzS_ok {H : SHeap U} {x y : SV U.Ty} (h : (frzS H x).Runs y) : frz (toH U H) (toV U x) = some (toV U y) := by
  unfold frzS at h
  split at h
  · rename_i cs
    simp only [runs_andThen, Tr.Runs] at h
    obtain ⟨ws, h1, rfl⟩ := h
    simp only [toV, frz, frzLS_ok h1, Option.map_some]
  · rename_i hne
    have := frz0S_ok h
    unfold frz
    split
    · rename_i cs hcs
      exfalso
      cases x <;> simp_all [toV, frz0S, Tr.Runs]
    · exact this

theorem frzAllS_ok {H : SHeap U} : ∀ {xs ys : List (SV U.Ty)}, (frzAllS H xs).Runs ys → frzAll (toH U H) (toVs U xs) = some (toVs U ys) := by
  intro xs
  induction xs with
  | nil => intro ys h; simp only [frzAllS, Tr.Runs] at h; subst h; rfl
  | cons x xs ih =>
    intro ys h
    simp only [frzAllS, runs_andThen, Tr.Runs] at h
    obtain ⟨w, h1, ws, h2, rfl⟩ := h
    simp only [toVs, frzAll, frzS_ok h1, ih h2]

theorem ids1_toV (x : SV U.Ty) : ids1 (toV U x) = ids1S x := by
  cases x <;> simp [toV, ids1, ids1S]
theorem idsA_toV (x : SV U.Ty) : idsA (toV U x) = idsAS x := by
  cases x <;> simp [toV, idsA, idsAS, ids1S, ids1]
  rename_i cs
  rw [toVs_map, List.flatMap_map]
  simp [ids1_toV]
theorem idsAs_toV (xs : List (SV U.Ty)) : (toVs U xs).flatMap idsA = xs.flatMap idsAS := by
  rw [toVs_map, List.flatMap_map]
  simp [idsA_toV]

theorem ref1_toV (x : SV U.Ty) : ref1 (toV U x) = ref1S x := by
  cases x <;> simp [toV, ref1, ref1S]
theorem refsV_toV (x : SV U.Ty) : refsV (toV U x) = refsS x := by
  cases x <;> simp [toV, refsV, refsS, ref1S, ref1]
  rename_i cs
  rw [toVs_map, List.flatMap_map]
  simp [ref1_toV]

/-- What is bumped is a row that was looked at. -/
def rowsIn (H : SHeap U) (ids : List Nat) : Prop := ∀ i ∈ ids, ∀ b, H[i]? = some b → ∃ t xs fl, b = .row t xs fl

theorem bumpS_ok (H : SHeap U) : ∀ (ids : List Nat), (∀ i ∈ ids, ∃ t xs fl, H[i]? = some (.row t xs fl)) → toH U (bumpS H ids) = bump (toH U H) ids := by
  intro ids
  induction ids generalizing H with
  | nil => intro _; rfl
  | cons i is ih =>
    intro h
    simp only [bumpS, bump]
    have hmod : toH U (H.modify i bumpBox) = (toH U H).modify i fun b => { b with floor := b.xs.length } := by
      apply List.ext_getElem?
      intro j
      simp only [toH, List.getElem?_map, List.getElem?_modify]
      by_cases hij : i = j
      · subst hij
        obtain ⟨t, xs, fl, hb⟩ := h i (by simp)
        simp [hb, bumpBox, toBox]
      · simp [hij]
    rw [ih, hmod]
    intro j hj
    obtain ⟨t, xs, fl, hb⟩ := h j (by simp [hj])
    by_cases hij : i = j
    · subst hij
      exact ⟨t, xs, some xs.length, by simp [List.getElem?_modify, hb, bumpBox]⟩
    · exact ⟨t, xs, fl, by simp [List.getElem?_modify, hij, hb]⟩

theorem frz0S_rows {H : SHeap U} {x y : SV U.Ty} (h : (frz0S H x).Runs y) : ∀ i ∈ ids1S x, ∃ t xs fl, H[i]? = some (.row t xs fl) := by
  intro i hi
  unfold frz0S at h
  split at h <;> (try (simp [ids1S] at hi))
  · obtain ⟨t, xs, fl, h1, _⟩ := rowAt_runs h
    subst hi
    exact ⟨t, xs, fl, h1⟩
  · obtain ⟨t, xs, fl, h1, _⟩ := rowAt_runs h
    subst hi
    exact ⟨t, xs, fl, h1⟩
  · simp [Tr.Runs] at h

theorem frzLS_rows {H : SHeap U} : ∀ {xs ys : List (SV U.Ty)}, (frzLS H xs).Runs ys → ∀ i ∈ xs.flatMap ids1S, ∃ t xs fl, H[i]? = some (.row t xs fl) := by
  intro xs
  induction xs with
  | nil => intro ys h i hi; simp at hi
  | cons x xs ih =>
    intro ys h i hi
    simp only [frzLS, runs_andThen, Tr.Runs] at h
    obtain ⟨w, h1, ws, h2, rfl⟩ := h
    simp only [List.flatMap_cons, List.mem_append] at hi
    rcases hi with hi | hi
    · exact frz0S_rows h1 i hi
    · exact ih h2 i hi

theorem frzS_rows {H : SHeap U} {x y : SV U.Ty} (h : (frzS H x).Runs y) : ∀ i ∈ idsAS x, ∃ t xs fl, H[i]? = some (.row t xs fl) := by
  unfold frzS at h
  split at h
  · simp only [runs_andThen, Tr.Runs] at h
    obtain ⟨ws, h1, rfl⟩ := h
    exact frzLS_rows h1
  · rename_i hne
    intro i hi
    refine frz0S_rows h i ?_
    cases x <;> simp_all [idsAS, ids1S]
    simp [frz0S, Tr.Runs] at h

theorem frzAllS_rows {H : SHeap U} : ∀ {xs ys : List (SV U.Ty)}, (frzAllS H xs).Runs ys → ∀ i ∈ xs.flatMap idsAS, ∃ t xs fl, H[i]? = some (.row t xs fl) := by
  intro xs
  induction xs with
  | nil => intro ys h i hi; simp at hi
  | cons x xs ih =>
    intro ys h i hi
    simp only [frzAllS, runs_andThen, Tr.Runs] at h
    obtain ⟨w, h1, ws, h2, rfl⟩ := h
    simp only [List.flatMap_cons, List.mem_append] at hi
    rcases hi with hi | hi
    · exact frzS_rows h1 i hi
    · exact ih h2 i hi

/-! ### reading -/

theorem partS_ok (cs : List (SV U.Ty)) (off n : Nat) (b : Bool) : partOf (toVs U cs) off n b = (partS cs off n b).map (toV U) := by
  unfold partOf partS
  simp only [toVs_map, List.length_map]
  split
  · split
    · simp [toV, toVs_map, List.map_take, List.map_drop]
    · rfl
  · simp

theorem length_toVs (cs : List (SV U.Ty)) : (toVs U cs).length = cs.length := by simp [toVs_map]

theorem spliceS_ok {x : SV U.Ty} {off : Nat} {cs : List (SV U.Ty)} {y : SV U.Ty} (h : spliceS x off cs = some y) : spliceV (toV U x) off (toVs U cs) = some (toV U y) := by
  unfold spliceS at h
  split at h
  · rename_i ds
    split at h
    · rename_i hle
      simp only [Option.some.injEq] at h
      subst h
      simp only [toV, spliceV, length_toVs, hle, if_true]
      simp [toVs_map, List.map_take, List.map_drop]
    · cases h
  · cases h
  · rename_i h1 h2
    split at h
    · rename_i c
      simp only [Option.some.injEq] at h
      subst h
      have : ∀ ds, toV U x ≠ .agg ds := by
        intro ds hds
        cases x <;> simp_all [toV]
      unfold spliceV
      split
      · rename_i ds hds; exact absurd hds (this ds)
      · simp [toVs]
    · cases h

theorem boxAt_var {H : SHeap U} {id : Nat} {e n : Nat} {x : SV U.Ty} (h : H[id]? = some (.var e n x)) : boxAt (toH U H) id 1 = some (newBox false false e n [toV U x]) := by
  unfold boxAt
  rw [toH_get, h]
  simp [toBox, newBox]

theorem boxAt_row {H : SHeap U} {id tot : Nat} {t : Nat} {xs : List (U.Ty t)} {fl : Option Nat} (h : H[id]? = some (.row t xs fl)) (hl : xs.length = tot) : boxAt (toH U H) id tot = some (toBox U (.row t xs fl)) := by
  unfold boxAt
  rw [toH_get, h]
  simp [toBox, hl]

theorem loadT_ok {E : Env} (hU : UnivOK U E) {H : SHeap U} {t : TypeId} {a y : SV U.Ty} (h : (loadT E H t a).Runs y) : loadD E (toH U H) t (toV U a) = some (toV U y) := by
  unfold loadT at h
  split at h
  · simp [Tr.Runs] at h
  · rename_i i hi
    unfold loadD
    rw [hi]
    simp only
    split at h
    · rename_i et xs j off
      simp only [Tr.Runs, runs_opt] at h
      obtain ⟨x, hx, hp⟩ := h
      simp only [toV, readAt, List.getElem?_map, hx, Option.map_some]
      rw [hU.cells, partS_ok, hp]
      rfl
    · rename_i id j off tot
      split at h
      · rename_i e n x hb
        simp only [runs_when, runs_opt] at h
        obtain ⟨⟨rfl, rfl, hok⟩, hp⟩ := h
        simp only [toV, boxAt_var hb, newBox, readAt, List.getElem?_cons_zero]
        rw [cells_toV hok, partS_ok, hp]
        rfl
      · rename_i et xs fl hb
        simp only [Tr.Runs, runs_opt, beq_iff_eq] at h
        obtain ⟨hl, x, hx, hp⟩ := h
        simp only [toV, boxAt_row hb hl, toBox, readAt, List.getElem?_map, hx, Option.map_some]
        rw [hU.cells, partS_ok, hp]
        rfl
      · simp [Tr.Runs] at h
    · rename_i e cs off
      simp only [runs_opt] at h
      cases hp : partOf cs off i.size i.isAgg with
      | none => simp [hp] at h
      | some v =>
        simp only [hp, Option.map_some, Option.some.injEq] at h
        subst h
        simp only [toV, readAt, List.getElem?_cons_zero, V.cells, hp, toV_ofV]
    · simp [Tr.Runs] at h

theorem storeT_ok {E : Env} (hU : UnivOK U E) {H H' : SHeap U} {t : TypeId} {a v : SV U.Ty} (h : (storeT E H t a v).Runs H') : storeD E (toH U H) t (toV U a) (toV U v) = some (toH U H') := by
  unfold storeT at h
  split at h
  · simp [Tr.Runs] at h
  · rename_i i hi
    unfold storeD
    rw [hi]
    simp only
    split at h
    · rename_i id j off tot
      split at h
      · rename_i e n x hb
        simp only [runs_when] at h
        obtain ⟨⟨⟨rfl, rfl⟩, hl, hok, hokx⟩, h⟩ := h
        split at h
        · rename_i x' hx'
          simp only [runs_when, Tr.Runs] at h
          obtain ⟨hok', rfl⟩ := h
          simp only [toV, boxAt_var hb, newBox, List.getElem?_cons_zero]
          rw [cells_toV hok, length_toVs, hl, spliceS_ok hx', okS_okV hok]
          simp [okS_okV hok', toH_set, toBox, newBox]
        · simp [Tr.Runs] at h
      · rename_i et xs fl hb
        simp only [runs_when, Tr.Runs, runs_andThen, Bool.and_eq_true, beq_iff_eq, decide_eq_true_eq] at h
        obtain ⟨⟨hl, hok, hni⟩, ⟨hlen, hfl⟩, x, hx, v', hv', h⟩ := h
        split at h
        · rename_i x' hx'
          split at h
          · rename_i y hy
            simp only [runs_when, Tr.Runs] at h
            obtain ⟨⟨hok1, hok2⟩, rfl⟩ := h
            simp only [toV, boxAt_row hb hlen, toBox, List.getElem?_map, hx, Option.map_some]
            rw [cells_toV hok, length_toVs, hl, okS_okV hok]
            have hc : (frz (toH U H) (toV U v)) = some (toV U v') := frzS_ok hv'
            have hsp := spliceS_ok hx'
            rw [hU.encS] at hsp
            have hdec := hU.dec et x' y hy
            have hokr : okV (U.enc et y) = true := by rw [← hdec, retype_ok]; exact okS_okV hok2
            rw [hc]
            simp only [cells_toV hok1, hsp, Option.map_some, hdec, hokr, okS_okV hok1, idsA_toV, hni, beq_self_eq_true, Bool.and_self, Bool.and_true, decide_eq_true hfl, if_true, Bool.not_true, Bool.or_self, Bool.false_eq_true, if_false]
            rw [toH_set, bumpS_ok H _ (frzS_rows hv')]
            simp [toBox, List.map_set]
          · simp [Tr.Runs] at h
        · simp [Tr.Runs] at h
      · simp [Tr.Runs] at h
    · simp [Tr.Runs] at h

end

end Go.Proofs.Ytcjccaonfgcakaa.Le
