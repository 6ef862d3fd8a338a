/-
  Code over symbolic values: trees of what a piece of code comes to. They are sound.
-/
import Derived.Test.YtcjccaonfgcakaaLe28
namespace Go.Proofs.Ytcjccaonfgcakaa.Le
set_option linter.unusedVariables false
set_option linter.unusedSimpArgs false
open Go.RowKit (Below)

section
variable {U : Univ}

/-! ### boxes in order -/

def norm1 : SV U.Ty → SV U.Ty
  | .lit (.int k a) => .si k a
  | .lit (.bool b) => .sb b
  | .lit (.string s) => .ss s
  | v => v
def ren1S (ids : List Nat) : SV U.Ty → SV U.Ty
  | .all id n => .all (ids.idxOf id) n
  | .lsl id off len tot => .lsl (ids.idxOf id) off len tot
  | .ptr id i off tot => .ptr (ids.idxOf id) i off tot
  | v => norm1 v
def renS (ids : List Nat) : SV U.Ty → SV U.Ty
  | .agg cs => .agg (cs.map (ren1S ids))
  | v => ren1S ids v

def can1S (ids : List Nat) : SV U.Ty → Bool
  | .all id _ => ids.contains id
  | .lsl id _ _ _ => ids.contains id
  | .ptr id _ _ _ => ids.contains id
  | .fn _ [] [] => true
  | .fn _ _ _ | .ept _ _ _ _ | .tup _ | .agg _ | .raw _ => false
  | _ => true
def canS (ids : List Nat) : SV U.Ty → Bool
  | .agg cs => cs.all (can1S ids)
  | v => can1S ids v

def boxRefs (H : SHeap U) (id : Nat) : List Nat := match H[id]? with | some (.var _ _ x) => refsS x | _ => []

def collectS (H : SHeap U) : Nat → List Nat → List Nat → List Nat
  | 0, _, seen => seen
  | _ + 1, [], seen => seen
  | n + 1, id :: todo, seen => if seen.contains id then collectS H n todo seen else collectS H n (todo ++ boxRefs H id) (seen ++ [id])

def tidyBox (ids : List Nat) : SBox U.Ty → SBox U.Ty
  | .var e n x => .var e n (renS ids x)
  | .row t xs fl => .row t xs (fl.map fun _ => xs.length)
  | .dead => .dead

def boxFine (ids : List Nat) (H : SHeap U) (id : Nat) : Bool := match H[id]? with
  | some (.var _ _ x) => canS ids x
  | some (.row _ _ _) => true
  | _ => false

def distinct : List Nat → Bool
  | [] => true
  | x :: xs => !xs.contains x && distinct xs

def keepS (keep ids : List Nat) : Nat → List (SV U.Ty) → List (SV U.Ty)
  | _, [] => []
  | i, v :: vs => (if keep.contains i then renS ids v else .und) :: keepS keep ids (i + 1) vs

/-- The length of what a slice looks at, as its box has it now; whether it is what it was. -/
def lenFix (H : SHeap U) : SV U.Ty → SV U.Ty
  | .all id n => match H[id]? with | some (.row t xs _) => .all id xs.length | _ => .all id n
  | .lsl id off len tot => match H[id]? with | some (.row t xs _) => .lsl id off len xs.length | _ => .lsl id off len tot
  | v => v
def lenFixA (H : SHeap U) : SV U.Ty → SV U.Ty
  | .agg cs => .agg (cs.map (lenFix H))
  | v => lenFix H v
def lenChk (H : SHeap U) : SV U.Ty → Bool
  | .all id n => match H[id]? with | some (.row t xs _) => xs.length == n | _ => true
  | .lsl id off len tot => match H[id]? with | some (.row t xs _) => xs.length == tot | _ => true
  | _ => true
def hasLen : SV U.Ty → Bool
  | .all _ _ => true
  | .lsl _ _ _ _ => true
  | _ => false
def chks (H : SHeap U) : SV U.Ty → List Bool
  | .agg cs => (cs.filter hasLen).map (lenChk H)
  | v => if hasLen v then [lenChk H v] else []
def andAll : List Bool → Bool
  | [] => true
  | [b] => b
  | b :: bs => b && andAll bs

def tidyIds (keep : List Nat) (st : SSt U) : List Nat := collectS st.H 1000 (keep.flatMap fun i => refsS (st.s.getD i .und)) []

def boxChks (H : SHeap U) (id : Nat) : List Bool := match H[id]? with | some (.var _ _ x) => chks H x | _ => []

def fixBox (H : SHeap U) : SBox U.Ty → SBox U.Ty
  | .var e n x => .var e n (lenFixA H x)
  | b => b

def tidyT (keep : List Nat) (st : SSt U) : Tr U (SSt U) :=
  let ids := tidyIds keep st
  let cs := (keep.flatMap fun i => chks st.H (st.s.getD i .und)) ++ ids.flatMap (boxChks st.H)
  let out : Tr U (SSt U) := .leaf ⟨keepS keep ids 0 (st.s.map (lenFixA st.H)), ids.map fun id => tidyBox ids (fixBox st.H ((st.H[id]?).getD .dead))⟩
  .when ((distinct ids && ids.all (boxFine ids st.H) && keep.all (fun i => canS ids (st.s.getD i .und))) = true)
    (match cs with
     | [] => out
     | c :: cs => .chk (andAll (c :: cs)) out)

theorem norm1_toV (x : SV U.Ty) : toV U (norm1 x) = toV U x := by
  unfold norm1; split <;> rfl

theorem ren1_toV {ids : List Nat} {x : SV U.Ty} (h : can1S ids x = true) : toV U (ren1S ids x) = ren1 ids (toV U x) := by
  unfold ren1S
  split
  · rfl
  · rfl
  · rfl
  · rename_i h1 h2 h3
    rw [norm1_toV]
    cases x with
    | raw v => simp [can1S] at h
    | all id n => exact absurd rfl (h1 _ _)
    | lsl a b c d => exact absurd rfl (h2 _ _ _ _)
    | ptr a b c d => exact absurd rfl (h3 _ _ _ _)
    | _ => rfl

theorem no_agg {ids : List Nat} {x : SV U.Ty} (h : can1S ids x = true) : ∀ cs, toV U x ≠ .agg cs := by
  intro cs hcs
  cases x with
  | raw v => simp [can1S] at h
  | agg cs => simp [can1S] at h
  | _ => simp [toV] at hcs

theorem ren_toV {ids : List Nat} {x : SV U.Ty} (h : canS ids x = true) : toV U (renS ids x) = renV ids (toV U x) := by
  unfold renS
  split
  · rename_i cs
    simp only [canS, List.all_eq_true] at h
    simp only [toV, renV, toVs_map, List.map_map, V.agg.injEq]
    apply List.map_congr_left
    intro c hc
    exact ren1_toV (h c hc)
  · rename_i hne
    have h' : can1S ids x = true := by
      unfold canS at h
      split at h
      · exact absurd rfl (hne _)
      · exact h
    rw [ren1_toV h']
    unfold renV
    split
    · rename_i cs hcs
      exact absurd hcs (no_agg h' cs)
    · rfl

theorem can1_toV {E : Env} (hU : UnivOK U E) {ids : List Nat} {x : SV U.Ty} (h : can1S ids x = true) : can1 ids (toV U x) := by
  have hl : ∀ (t : Nat) (xs : List (U.Ty t)), noRefs (xs.map (U.enc t)) = true := fun t xs => (noRefs_iff _).2 (by
    intro v hv
    obtain ⟨a, _, rfl⟩ := List.mem_map.1 hv
    exact hU.nr t a)
  cases x with
  | fn f a b =>
    cases a with
    | nil => cases b with
      | nil => rfl
      | cons => simp [can1S] at h
    | cons => cases b <;> simp [can1S] at h
  | all id n => simpa [toV, can1, can1S] using h
  | lsl a b c d => simpa [toV, can1, can1S] using h
  | ptr a b c d => simpa [toV, can1, can1S] using h
  | sl t xs => simpa [toV, can1, noRef] using hl t xs
  | slt t xs => simpa [toV, can1, noRef] using hl t xs
  | ept a b c d => simp [can1S] at h
  | tup vs => simp [can1S] at h
  | agg vs => simp [can1S] at h
  | raw v => simp [can1S] at h
  | _ => rfl

theorem can_toV {E : Env} (hU : UnivOK U E) {ids : List Nat} {x : SV U.Ty} (h : canS ids x = true) : canV ids (toV U x) := by
  unfold canS at h
  split at h
  · rename_i cs
    simp only [List.all_eq_true] at h
    simp only [toV, canV, toVs_map]
    intro c hc
    obtain ⟨y, hy, rfl⟩ := List.mem_map.1 hc
    exact can1_toV hU (h y hy)
  · have := can1_toV hU h
    unfold canV
    split
    · rename_i cs hcs
      exact absurd hcs (no_agg h cs)
    · exact this

theorem distinct_ok : ∀ {l : List Nat}, distinct l = true → l.Nodup := by
  intro l
  induction l with
  | nil => intro _; exact List.nodup_nil
  | cons x xs ih =>
    intro h
    simp only [distinct, Bool.and_eq_true, Bool.not_eq_true', List.contains_eq_mem, decide_eq_false_iff_not] at h
    exact List.nodup_cons.2 ⟨h.1, ih h.2⟩

theorem keepS_get (keep ids : List Nat) : ∀ (vs : List (SV U.Ty)) (k i : Nat), (keepS keep ids k vs)[i]? = (vs[i]?).map fun v => if keep.contains (k + i) then renS ids v else .und := by
  intro vs
  induction vs with
  | nil => intro k i; simp [keepS]
  | cons v vs ih =>
    intro k i
    cases i with
    | zero => simp [keepS]
    | succ i =>
      simp only [keepS, List.getElem?_cons_succ, ih]
      rw [show k + 1 + i = k + (i + 1) by omega]

theorem keepS_length (keep ids : List Nat) : ∀ (vs : List (SV U.Ty)) (k : Nat), (keepS keep ids k vs).length = vs.length := by
  intro vs
  induction vs with
  | nil => intro k; rfl
  | cons v vs ih => intro k; simp [keepS, ih]

theorem andAll_mem : ∀ {l : List Bool}, andAll l = true → ∀ b ∈ l, b = true := by
  intro l
  induction l with
  | nil => intro _ b hb; simp at hb
  | cons x xs ih =>
    intro h b hb
    cases xs with
    | nil => simp only [andAll] at h; simp only [List.mem_singleton] at hb; rw [hb]; exact h
    | cons y ys =>
      simp only [andAll, Bool.and_eq_true] at h
      rcases List.mem_cons.1 hb with hb | hb
      · rw [hb]; exact h.1
      · exact ih h.2 b hb

theorem lenFix_eq {H : SHeap U} {x : SV U.Ty} (h : lenChk H x = true) : lenFix H x = x := by
  unfold lenChk at h
  unfold lenFix
  split at h
  · split at h
    · rename_i hb
      simp only [beq_iff_eq] at h
      simp only [hb, h]
    · rfl
  · split at h
    · rename_i hb
      simp only [beq_iff_eq] at h
      simp only [hb, h]
    · rfl
  · rfl

theorem lenChk_no {H : SHeap U} {x : SV U.Ty} (h : hasLen x = false) : lenChk H x = true := by
  cases x <;> simp_all [hasLen, lenChk]

theorem lenFixA_eq {H : SHeap U} {x : SV U.Ty} (h : ∀ b ∈ chks H x, b = true) : lenFixA H x = x := by
  unfold lenFixA
  split
  · rename_i cs
    congr 1
    conv => rhs; rw [← List.map_id cs]
    apply List.map_congr_left
    intro c hc
    refine lenFix_eq ?_
    by_cases hl : hasLen c = true
    · refine h _ ?_
      simp only [chks, List.mem_map, List.mem_filter]
      exact ⟨c, ⟨hc, hl⟩, rfl⟩
    · exact lenChk_no (by simpa using hl)
  · rename_i hne
    refine lenFix_eq ?_
    by_cases hl : hasLen x = true
    · refine h _ ?_
      unfold chks
      split
      · exact absurd rfl (hne _)
      · simp [hl]
    · exact lenChk_no (by simpa using hl)

theorem tidyT_ok {E : Env} (hU : UnivOK U E) {keep : List Nat} {st st' : SSt U} (h : (tidyT keep st).Runs st') : ∃ ids, TidyR ids (toSt U st) (toSt U st') := by
  unfold tidyT at h
  simp only [runs_when] at h
  generalize hids : tidyIds keep st = ids at h
  obtain ⟨hc, h⟩ := h
  simp only [Bool.and_eq_true, List.all_eq_true] at hc
  obtain ⟨⟨h1, h2⟩, h3⟩ := hc
  have hboth : (∀ b ∈ (keep.flatMap fun i => chks st.H (st.s.getD i .und)) ++ ids.flatMap (boxChks st.H), b = true) ∧
      st' = ⟨keepS keep ids 0 (st.s.map (lenFixA st.H)), ids.map fun id => tidyBox ids (fixBox st.H ((st.H[id]?).getD .dead))⟩ := by
    split at h
    · rename_i hnil
      simp only [Tr.Runs] at h
      exact ⟨by rw [hnil]; intro b hb; simp at hb, h.symm⟩
    · rename_i c cs hcons
      simp only [Tr.Runs] at h
      exact ⟨by rw [hcons]; exact andAll_mem h.1, h.2.symm⟩
  obtain ⟨hck, rfl⟩ := hboth
  have hslot : ∀ i ∈ keep, lenFixA st.H (st.s.getD i .und) = st.s.getD i .und := fun i hi => lenFixA_eq fun b hb => hck b (by
    simp only [List.mem_append, List.mem_flatMap]
    exact .inl ⟨i, hi, hb⟩)
  have hbx : ∀ id ∈ ids, ∀ e n x, st.H[id]? = some (.var e n x) → lenFixA st.H x = x := fun id hid e n x hb => lenFixA_eq fun b hb' => hck b (by
    simp only [List.mem_append, List.mem_flatMap]
    exact .inr ⟨id, hid, by simp [boxChks, hb]; exact hb'⟩)
  refine ⟨ids, distinct_ok h1, by simp [toSt, toH], ?_, by simp [toSt, toVs_map, keepS_length], ?_⟩
  · intro j id hj
    have hm := List.mem_of_getElem? hj
    have hf := h2 id hm
    unfold boxFine at hf
    have hget : (toSt U ⟨keepS keep ids 0 (st.s.map (lenFixA st.H)), ids.map fun id => tidyBox ids (fixBox st.H ((st.H[id]?).getD .dead))⟩).H[j]? = some (toBox U (tidyBox ids (fixBox st.H ((st.H[id]?).getD .dead)))) := by
      simp [toSt, toH, hj]
    have hget0 : (toSt U st).H[id]? = (st.H[id]?).map (toBox U) := toH_get _ _
    rw [hget, hget0]
    split at hf
    · rename_i e n x hb
      rw [hb]
      have hx := hbx id hm e n x hb
      refine ⟨_, _, rfl, rfl, rfl, rfl, rfl, fun h => h, rfl, rfl, .inl (Nat.le_refl _), ?_, fun hr => ?_, fun _ => ⟨?_, ?_⟩⟩
      · simp [fixBox, tidyBox, toBox, newBox]
      · simp [toBox, newBox] at hr
      · simp [fixBox, tidyBox, toBox, newBox, hx, ren_toV hf]
      · intro y hy
        simp only [toBox, newBox, List.mem_singleton] at hy
        subst hy
        exact can_toV hU hf
    · rename_i t xs fl hb
      rw [hb]
      refine ⟨_, _, rfl, rfl, rfl, rfl, rfl, fun h => h, rfl, rfl, ?_, ?_, fun hr => rfl, fun hr => ?_⟩
      · cases fl with
        | none => exact .inl (Nat.le_refl _)
        | some n => exact .inr (by simp [fixBox, tidyBox, toBox])
      · cases fl <;> simp [fixBox, tidyBox, toBox]
      · simp [toBox] at hr
    · cases hf
  · intro i v' hv
    simp only [toSt, toVs_map, List.getElem?_map] at hv
    rw [keepS_get] at hv
    cases hs : st.s[i]? with
    | none => simp [hs] at hv
    | some v =>
      simp only [List.getElem?_map, hs, Option.map_some, Option.some.injEq, Nat.zero_add] at hv
      subst hv
      split
      · rename_i hk
        have hmem : i ∈ keep := by simpa using hk
        have hk' := h3 i hmem
        have hv0 : st.s.getD i .und = v := by simp [List.getD, hs]
        have hfix := hslot i hmem
        rw [hv0] at hk' hfix
        rw [hfix]
        exact .inr ⟨toV U v, by simp [toSt, toVs_map, hs], ren_toV hk', can_toV hU hk'⟩
      · exact .inl rfl

/-! ### results -/

def resT (E : Env) (H : SHeap U) (s : List (SV U.Ty)) : ResultVar → Tr U (SV U.Ty)
  | .tmp t => .leaf (s.getD t .und)
  | .cell a t => loadT E H t (s.getD a .und)

def ressT (E : Env) (H : SHeap U) (s : List (SV U.Ty)) : List ResultVar → Tr U (List (SV U.Ty))
  | [] => .leaf []
  | r :: rs => (resT E H s r).andThen fun v => (ressT E H s rs).andThen fun vs => .leaf (v :: vs)

def encAll : List Nat → List (SV U.Ty) → Option (List (SV U.Ty))
  | [], [] => some []
  | t :: ts, w :: ws => match U.decS t w, encAll ts ws with | some a, some r => some (U.encS t a :: r) | _, _ => none
  | _, _ => none

def doneT (E : Env) (fn : Func) (st : SSt U) : Tr U (SV U.Ty) :=
  (ressT E st.H st.s fn.results.toList).andThen fun vs =>
    match vs, fn.resultTypes.toList with
    | [v], [t] => (frzS st.H v).andThen fun w => (match U.decS t w with | some a => .leaf (U.encS t a) | none => .fail)
    | vs, ts => .when (vs.length ≠ 1) ((frzAllS st.H vs).andThen fun ws => (match encAll ts ws with | some es => .leaf (.tup es) | none => .fail))

theorem ressT_ok {E : Env} (hU : UnivOK U E) {st : SSt U} : ∀ {rs : List ResultVar} {vs : List (SV U.Ty)}, (ressT E st.H st.s rs).Runs vs → rs.mapM (resD E (toSt U st).H (toSt U st).s) = some (toVs U vs) := by
  intro rs
  induction rs with
  | nil => intro vs h; simp only [ressT, Tr.Runs] at h; subst h; rfl
  | cons r rs ih =>
    intro vs h
    simp only [ressT, runs_andThen, Tr.Runs] at h
    obtain ⟨v, h1, ws, h2, rfl⟩ := h
    have hr : resD E (toSt U st).H (toSt U st).s r = some (toV U v) := by
      cases r with
      | tmp t =>
        simp only [resT, Tr.Runs] at h1
        subst h1
        exact congrArg some (toVs_getD st.s t)
      | cell a t =>
        simp only [resD]
        rw [show (toSt U st).s.getD a .und = toV U (st.s.getD a .und) from toVs_getD st.s a]
        exact loadT_ok hU h1
    rw [List.mapM_cons, hr, ih h2]
    rfl

theorem encAll_ok {E : Env} (hU : UnivOK U E) : ∀ {ts : List Nat} {ws es : List (SV U.Ty)}, encAll ts ws = some es → retypeRL (ts.map E.rows) (toVs U ws) = toVs U es := by
  intro ts
  induction ts with
  | nil =>
    intro ws es h
    cases ws with
    | nil => simp only [encAll, Option.some.injEq] at h; subst h; rfl
    | cons => simp [encAll] at h
  | cons t ts ih =>
    intro ws es h
    cases ws with
    | nil => simp [encAll] at h
    | cons w ws =>
      simp only [encAll] at h
      split at h
      · rename_i a r h1 h2
        simp only [Option.some.injEq] at h
        subst h
        simp only [List.map_cons, toVs, retypeRL, hU.dec _ _ _ h1, hU.encS, ih h2]
      · cases h

theorem frz_tup {H : Heap} {x y : V} (h : frz H x = some y) : ∀ vs, y ≠ .tup vs := by
  intro vs hy
  subst hy
  unfold frz at h
  split at h
  · rename_i cs
    cases hl : frzL H cs <;> simp [hl] at h
  · unfold frz0 at h
    split at h <;> (try (cases h; done)) <;> (try (split at h <;> (try (split at h)) <;> cases h))

theorem doneT_ok {E : Env} (hU : UnivOK U E) {fn : Func} {st : SSt U} {v : SV U.Ty} (h : (doneT E fn st).Runs v) :
    ∃ r0 r1, resultsD E (toSt U st).H (toSt U st).s fn.results.toList = some r0 ∧ frzT (toSt U st).H r0 = some r1 ∧ retypeR (fn.resultTypes.toList.map E.rows) r1 = toV U v := by
  unfold doneT at h
  simp only [runs_andThen] at h
  obtain ⟨vs, h1, h⟩ := h
  have hm := ressT_ok hU h1
  split at h
  · rename_i v0 t hts
    simp only [runs_andThen] at h
    obtain ⟨w, h2, h⟩ := h
    split at h
    · rename_i a ha
      simp only [Tr.Runs] at h
      subst h
      have hf : frz (toSt U st).H (toV U v0) = some (toV U w) := frzS_ok h2
      refine ⟨toV U v0, toV U w, by simp only [resultsD, hm, toVs], ?_, ?_⟩
      · unfold frzT
        split
        · rename_i us hus
          rw [hus] at hf
          simp [frz, frz0] at hf
        · exact hf
      · rw [hts]
        unfold retypeR
        split
        · rename_i us hus
          exact absurd hus (frz_tup hf us)
        · simp only [List.map_cons, List.headD_cons, hU.dec _ _ _ ha, hU.encS]
    · simp [Tr.Runs] at h
  · rename_i va vs ts hneg
    simp only [runs_when, runs_andThen] at h
    obtain ⟨hl, ws, h2, h⟩ := h
    split at h
    · rename_i es hes
      simp only [Tr.Runs] at h
      subst h
      refine ⟨.tup (toVs U va), .tup (toVs U ws), ?_, ?_, ?_⟩
      · simp only [resultsD, hm]
        split
        · rename_i x hx
          simp only [Option.some.injEq] at hx
          exfalso
          apply hl
          have := congrArg List.length hx
          rw [length_toVs] at this
          simpa using this
        · rename_i hx
          simp only [Option.some.injEq] at hx
          rw [← hx]
        · rename_i hx; cases hx
      · simp only [frzT, toSt, frzAllS_ok h2, Option.map_some]
      · simp only [retypeR, encAll_ok hU hes, toV]
    · simp [Tr.Runs] at h

/-! ### code -/

inductive Leaf (U : Univ) where
  | done (v : SV U.Ty)
  | jump (c : Code) (K : List Fr) (st : SSt U)

/-- What the code comes to from here on, up to the next marked regions. 'sk': the mark of the first region is passed over. -/
def runT (E : Env) (M : Mdl U) (A : Nat → Option (List Nat)) (f : FuncId) (fn : Func) : Nat → Ctl → List Fr → SSt U → Bool → Tr U (Leaf U)
  | 0, _, _, _, _ => .fail
  | n + 1, .run c, K, st, sk =>
    match c with
    | .skip => runT E M A f fn n .nxt K st sk
    | .region id ops draw =>
      let go : Tr U (Leaf U) := if draw then (if E.calm f id then (drawT E M ops st).andThen fun st' => runT E M A f fn n .nxt K st' false else .fail)
        else (opsT E M ops (List.range ops.size) st).andThen fun st' => runT E M A f fn n .nxt K st' false
      match sk with
      | true => go
      | false => match A id with
        | none => go
        | some keep => (tidyT keep st).andThen fun st' => .leaf (.jump (.region id ops draw) K st')
    | .seq a b => runT E M A f fn n (.run a) (.seq b :: K) st sk
    | .cond c a b => match evS E st.s c with
      | .lit (.bool true) => runT E M A f fn n (.run a) K st sk
      | .lit (.bool false) => runT E M A f fn n (.run b) K st sk
      | .sb t => .br t (runT E M A f fn n (.run a) K st sk) (runT E M A f fn n (.run b) K st sk)
      | _ => .fail
    | .block id b => runT E M A f fn n (.run b) (.blk id :: K) st sk
    | .loop b => runT E M A f fn n (.run b) (.loop b :: K) st sk
    | .exit id => runT E M A f fn n (.exit id) K st sk
    | .ret => runT E M A f fn n .ret K st sk
    | _ => .fail
  | n + 1, .nxt, [], st, _ => (doneT E fn st).andThen fun v => .leaf (.done v)
  | n + 1, .nxt, .seq c :: K, st, sk => runT E M A f fn n (.run c) K st sk
  | n + 1, .nxt, .blk _ :: K, st, sk => runT E M A f fn n .nxt K st sk
  | n + 1, .nxt, .loop b :: K, st, sk => runT E M A f fn n (.run b) (.loop b :: K) st sk
  | n + 1, .exit id, .blk i :: K, st, sk => if id = i then runT E M A f fn n .nxt K st sk else runT E M A f fn n (.exit id) K st sk
  | n + 1, .exit id, _ :: K, st, sk => runT E M A f fn n (.exit id) K st sk
  | n + 1, .exit _, [], _, _ => .fail
  | n + 1, .ret, [], st, _ => (doneT E fn st).andThen fun v => .leaf (.done v)
  | n + 1, .ret, _ :: K, st, sk => runT E M A f fn n .ret K st sk

def LeafPost (call : CallF) (E : Env) (f : FuncId) (fn : Func) : Leaf U → V → Prop
  | .done s, v => v = toV U s
  | .jump c K st, v => RunsV call E f fn (.run c) K (toSt U st) v

theorem runT_ok {E : Env} {M : Mdl U} {A : Nat → Option (List Nat)} {call : CallF} (hU : UnivOK U E) (hM : MdlOK U M call) {f : FuncId} {fn : Func} {r : V} : ∀ (n : Nat) (ctl : Ctl) (K : List Fr) (st : SSt U) (sk : Bool) (l : Leaf U),
    (runT E M A f fn n ctl K st sk).Runs l → LeafPost call E f fn l r → RunsV call E f fn ctl K (toSt U st) r := by
  intro n
  induction n with
  | zero => intro ctl K st sk l h; simp [runT, Tr.Runs] at h
  | succ n ih =>
    intro ctl K st sk l h hl
    cases ctl with
    | run c =>
      cases c with
      | skip => exact .skip (ih _ _ _ _ _ h hl)
      | region id ops draw =>
        simp only [runT] at h
        have go : (if draw = true then (if E.calm f id = true then (drawT E M ops st).andThen fun st' => runT E M A f fn n .nxt K st' false else .fail)
            else (opsT E M ops (List.range ops.size) st).andThen fun st' => runT E M A f fn n .nxt K st' false : Tr U (Leaf U)).Runs l → RunsV call E f fn (.run (.region id ops draw)) K (toSt U st) r := by
          intro hg
          cases draw with
          | true =>
            simp only [if_true] at hg
            by_cases hc : E.calm f id = true
            · rw [if_pos hc, runs_andThen] at hg
              obtain ⟨st1, h1, h2⟩ := hg
              exact .draw hc (drawT_ok hU hM h1) (ih _ _ _ _ _ h2 hl)
            · rw [if_neg hc] at hg
              simp [Tr.Runs] at hg
          | false =>
            simp only [Bool.false_eq_true, if_false] at hg
            rw [runs_andThen] at hg
            obtain ⟨st1, h1, h2⟩ := hg
            exact .region (opsT_ok hU hM h1) (ih _ _ _ _ _ h2 hl)
        cases sk with
        | true => exact go h
        | false =>
          simp only at h
          split at h
          · exact go h
          · rename_i keep hA
            simp only [runs_andThen, Tr.Runs] at h
            obtain ⟨st1, ht, rfl⟩ := h
            obtain ⟨ids, hids⟩ := tidyT_ok hU ht
            exact .tidy hids hl
      | seq a b => exact .seq (ih _ _ _ _ _ h hl)
      | cond c a b =>
        simp only [runT] at h
        have hev : ev E (toSt U st).s c = toV U (evS E st.s c) := ev_toV E st.s c
        split at h
        · rename_i hc
          rw [hc] at hev
          exact .cond (t := true) hev (ih _ _ _ _ _ h hl)
        · rename_i hc
          rw [hc] at hev
          exact .cond (t := false) hev (ih _ _ _ _ _ h hl)
        · rename_i t hc
          rw [hc] at hev
          simp only [Tr.Runs] at h
          rcases h with ⟨rfl, h⟩ | ⟨rfl, h⟩
          · exact .cond (t := true) hev (ih _ _ _ _ _ h hl)
          · exact .cond (t := false) hev (ih _ _ _ _ _ h hl)
        · simp [Tr.Runs] at h
      | block id b => exact .block (ih _ _ _ _ _ h hl)
      | loop b => exact .loop (ih _ _ _ _ _ h hl)
      | exit id => exact .exit (ih _ _ _ _ _ h hl)
      | ret => exact .ret (ih _ _ _ _ _ h hl)
      | _ => simp [runT, Tr.Runs] at h
    | nxt =>
      cases K with
      | nil =>
        simp only [runT, runs_andThen, Tr.Runs] at h
        obtain ⟨v, h1, rfl⟩ := h
        obtain ⟨r0, r1, e1, e2, e3⟩ := doneT_ok hU h1
        have : r = retypeR (fn.resultTypes.toList.map E.rows) r1 := by rw [e3]; exact hl
        rw [this]
        exact .finN e1 e2
      | cons x K =>
        cases x with
        | seq c => exact .nseq (ih _ _ _ _ _ h hl)
        | blk i => exact .nblk (ih _ _ _ _ _ h hl)
        | loop b => exact .nloop (ih _ _ _ _ _ h hl)
    | exit id =>
      cases K with
      | nil => simp [runT, Tr.Runs] at h
      | cons x K =>
        cases x with
        | seq c => exact .eseq (ih _ _ _ _ _ h hl)
        | blk i =>
          simp only [runT] at h
          split at h
          · rename_i hi
            subst hi
            exact .eblk (ih _ _ _ _ _ h hl)
          · rename_i hi
            exact .epass hi (ih _ _ _ _ _ h hl)
        | loop b => exact .eloop (ih _ _ _ _ _ h hl)
    | ret =>
      cases K with
      | nil =>
        simp only [runT, runs_andThen, Tr.Runs] at h
        obtain ⟨v, h1, rfl⟩ := h
        obtain ⟨r0, r1, e1, e2, e3⟩ := doneT_ok hU h1
        have : r = retypeR (fn.resultTypes.toList.map E.rows) r1 := by rw [e3]; exact hl
        rw [this]
        exact .finR e1 e2
      | cons x K => exact .rany (ih _ _ _ _ _ h hl)

end

end Go.Proofs.Ytcjccaonfgcakaa.Le
