/-
  An evaluator for the model's code over pure values: regions that draw their order.
-/
import Derived.Test.YtkepnndakhpgoaaGreatDoorL2
import Derived.LoopN
namespace Go.Proofs.YtkepnndakhpgoaaGreatDoor.Le
set_option linter.unusedVariables false
open Go.RowKit (Below)

/-! ### an operation looks at its operands only -/

theorem getD_set_ne' {s : List V} {d t : Nat} (h : d ≠ t) (v u : V) : (s.set d v).getD t u = s.getD t u := by
  simp [List.getD, List.getElem?_set_ne h]

theorem ev_set {E : Env} {s : List V} {d : Option Tmp} {v : V} (x : Operand) (h : ∀ d', d = some d' → x ≠ .tmp d') : ev E (setSlot s d v) x = ev E s x := by
  cases d with
  | none => rfl
  | some d =>
    cases x with
    | tmp t => exact getD_set_ne' (fun e => h d rfl (by rw [e])) v .und
    | _ => rfl

theorem map_ev_congr {E : Env} {s s' : List V} (xs : List Operand) (h : ∀ x ∈ xs, ev E s x = ev E s' x) : xs.map (ev E s) = xs.map (ev E s') := List.map_congr_left h

theorem parts_congr {E : Env} {s s' : List V} (ps : Array (Nat × Operand)) (h : ∀ x ∈ (ps.toList.map (·.2)).toArray, ev E s x = ev E s' x) :
    (ps.toList.map fun (i, x) => (i, ev E s x)) = (ps.toList.map fun (i, x) => (i, ev E s' x)) := List.map_congr_left fun p hp => by
  obtain ⟨i, x⟩ := p
  simp only [h x (by simpa using ⟨i, by simpa using hp⟩)]

theorem opD_congr {call : CallF} {E : Env} {k : Nat} {H : Heap} {s s' : List V} {o : Oper} (h : ∀ x ∈ o.op.operands, ev E s x = ev E s' x) : opD call E k H s o = opD call E k H s' o := by
  obtain ⟨dst, op, type, pos, after, guard⟩ := o
  simp only at h
  cases op <;> simp only [Op.operands] at h <;> simp only [opD]
  case assign x =>
    have hx : ev E s x = ev E s' x := h x (by simp)
    split <;> simp_all
  case build t ps => rw [parts_congr ps h]
  case buildSlice t n ps => rw [parts_congr ps h]
  case makeFunc fn first captured =>
    have h1 : evs E s first = evs E s' first := map_ev_congr _ fun x hx => h x (by simp at hx; simp [hx])
    have h2 : evs E s captured = evs E s' captured := map_ev_congr _ fun x hx => h x (by simp at hx; simp [hx])
    cases fn <;> simp only [h1, h2]
  case call c =>
    have h1 : evs E s c.args = evs E s' c.args := map_ev_congr _ fun x hx => h x (by simp at hx; simp [Call.operands, hx])
    rw [h1]
    cases hc : c.callee with
    | value f => have hf : ev E s f = ev E s' f := h f (by simp [Call.operands, hc]); simp only [hf]
    | builtin b => cases b <;> rfl
    | invoke r n => rfl
  case slice t x lo hi mx =>
    have hx : ev E s x = ev E s' x := h x (by simp)
    have hlo : lo.map (ev E s) = lo.map (ev E s') := by cases lo <;> simp_all
    have hhi : hi.map (ev E s) = hi.map (ev E s') := by cases hi <;> simp_all
    have hmx : mx.map (ev E s) = mx.map (ev E s') := by cases mx <;> simp_all
    rw [hx, hlo, hhi, hmx]
  all_goals (first | rfl | (simp_all; done))

theorem looks_op {ops : Array Oper} {o : Oper} {d : Tmp} (h : d ∉ o.looksAt ops) : ∀ x ∈ o.op.operands, x ≠ .tmp d := fun x hx e => h (by
  subst e
  exact List.mem_append_left _ (List.mem_filterMap.2 ⟨.tmp d, by simpa using hx, rfl⟩))

theorem opD_set {call : CallF} {E : Env} {k : Nat} {H : Heap} {s : List V} {o : Oper} {ops : Array Oper} {d : Option Tmp} {v : V} (h : ∀ d', d = some d' → d' ∉ o.looksAt ops) :
    opD call E k H (setSlot s d v) o = opD call E k H s o :=
  opD_congr fun x hx => ev_set x fun d' hd => looks_op (h d' hd) x hx

theorem refsO_set {E : Env} {s : List V} {o : Oper} {ops : Array Oper} {d : Option Tmp} {v : V} (h : ∀ d', d = some d' → d' ∉ o.looksAt ops) : refsO E (setSlot s d v) o = refsO E s o := by
  unfold refsO
  rw [← List.flatMap_map, ← List.flatMap_map (f := ev E s)]
  congr 1
  exact List.map_congr_left fun x hx => ev_set x fun d' hd => looks_op (h d' hd) x (by simpa using hx)

theorem actD_set {call : CallF} {E : Env} {k : Nat} {H : Heap} {s : List V} {o : Oper} {ops : Array Oper} {d : Option Tmp} {v : V} (h : ∀ d', d = some d' → d' ∉ o.looksAt ops) :
    actD call E ops k o ⟨setSlot s d v, H⟩ = actD call E ops k o ⟨s, H⟩ := by
  unfold actD
  cases hg : o.guard with
  | none => exact opD_set h
  | some jw =>
    obtain ⟨j, want⟩ := jw
    simp only
    cases hd : (ops[j]?).bind (·.dst) with
    | none => rfl
    | some g =>
      have hne : ∀ d', d = some d' → d' ≠ g := fun d' hd' e => h d' hd' (by
        subst e
        exact List.mem_append_right _ (by simp [hg, hd]))
      have : (setSlot s d v).getD g .und = s.getD g .und := by
        cases d with
        | none => rfl
        | some d => exact getD_set_ne' (hne d rfl) v .und
      simp only [this]
      rw [opD_set h]

/-! ### heaps that agree on what an operation names -/

def Box.low (b : Box) : Box := { b with floor := 0 }
def SimAt (R : List Nat) (H H' : Heap) : Prop := ∀ id ∈ R, (H[id]?).map Box.low = (H'[id]?).map Box.low

theorem boxAt_low {H H' : Heap} {id tot : Nat} {b : Box} (h : (H[id]?).map Box.low = (H'[id]?).map Box.low) (hb : boxAt H id tot = some b) : ∃ b', boxAt H' id tot = some b' ∧ b'.low = b.low := by
  unfold boxAt at *
  cases h1 : H[id]? with
  | none => simp [h1] at hb
  | some b0 =>
    simp only [h1] at hb h
    cases h2 : H'[id]? with
    | none => simp [h2] at h
    | some b1 =>
      simp only [h2, Option.map_some, Option.some.injEq] at h
      split at hb
      · rename_i hc
        simp only [Option.some.injEq] at hb
        subst hb
        refine ⟨b1, ?_, h.symm⟩
        have e1 : b1.live = b0.live := (congrArg Box.live h).symm
        have e2 : b1.xs = b0.xs := (congrArg Box.xs h).symm
        simp only [e1, e2, hc, if_true]
      · cases hb

theorem low_eqs {b b' : Box} (h : b'.low = b.low) : b'.row = b.row ∧ b'.nilp = b.nilp ∧ b'.elem = b.elem ∧ b'.esz = b.esz ∧ b'.xs = b.xs :=
  ⟨congrArg (·.row) h, congrArg (·.nilp) h, congrArg (·.elem) h, congrArg (·.esz) h, congrArg (·.xs) h⟩

theorem boxAt_none {H H' : Heap} {id tot : Nat} (h : (H[id]?).map Box.low = (H'[id]?).map Box.low) (hb : boxAt H id tot = none) : boxAt H' id tot = none := by
  cases hb' : boxAt H' id tot with
  | none => rfl
  | some b =>
    obtain ⟨b', h1, _⟩ := boxAt_low h.symm hb'
    rw [hb] at h1
    cases h1

section
variable {H H' : Heap}

theorem frz0_sim {x : V} (h : SimAt (ref1 x) H H') : frz0 H' x = frz0 H x := by
  unfold frz0
  split <;> try rfl
  rename_i id off len tot
  cases hb : boxAt H id tot with
  | none => rw [boxAt_none (h id (by simp [ref1])) hb]
  | some b =>
    obtain ⟨b', h1, h2⟩ := boxAt_low (h id (by simp [ref1])) hb
    obtain ⟨e1, e2, e3, e4, e5⟩ := low_eqs h2
    simp only [h1, e1, e4, e5]

theorem frzL_sim {xs : List V} (h : SimAt (xs.flatMap ref1) H H') : frzL H' xs = frzL H xs := by
  induction xs with
  | nil => rfl
  | cons x xs ih =>
    simp only [frzL]
    rw [frz0_sim (fun i hi => h i (by simp [hi])), ih (fun i hi => h i (by rw [List.flatMap_cons]; exact List.mem_append_right _ hi))]

theorem frz_sim {x : V} (h : SimAt (refsV x) H H') : frz H' x = frz H x := by
  unfold frz
  split
  · rw [frzL_sim (by simpa [refsV] using h)]
  · rename_i hne
    refine frz0_sim (fun i hi => h i ?_)
    cases x <;> simp_all [refsV]

theorem frzAll_sim {xs : List V} (h : SimAt (xs.flatMap refsV) H H') : frzAll H' xs = frzAll H xs := by
  induction xs with
  | nil => rfl
  | cons x xs ih =>
    simp only [frzAll]
    rw [frz_sim (fun i hi => h i (by simp [hi])), ih (fun i hi => h i (by rw [List.flatMap_cons]; exact List.mem_append_right _ hi))]

theorem lenOf_sim {x : V} (h : SimAt (refsV x) H H') : lenOf H' x = lenOf H x := by
  unfold lenOf
  split <;> try rfl
  rename_i id off len tot
  cases hb : boxAt H id tot with
  | none => rw [boxAt_none (h id (by simp [refsV, ref1])) hb]
  | some b =>
    obtain ⟨b', h1, h2⟩ := boxAt_low (h id (by simp [refsV, ref1])) hb
    simp only [h1]

theorem elemsOf_sim {x : V} (h : SimAt (refsV x) H H') : elemsOf H' x = elemsOf H x := by
  unfold elemsOf
  split <;> try rfl
  rename_i id off len tot
  cases hb : boxAt H id tot with
  | none => rw [boxAt_none (h id (by simp [refsV, ref1])) hb]
  | some b =>
    obtain ⟨b', h1, h2⟩ := boxAt_low (h id (by simp [refsV, ref1])) hb
    obtain ⟨e1, e2, e3, e4, e5⟩ := low_eqs h2
    simp only [h1, e1, e5]

theorem eszIs_sim {x : V} {n : Nat} (h : SimAt (refsV x) H H') : eszIs H' x n = eszIs H x n := by
  unfold eszIs
  split <;> try rfl
  rename_i id off len tot
  cases hb : boxAt H id tot with
  | none => rw [boxAt_none (h id (by simp [refsV, ref1])) hb]
  | some b =>
    obtain ⟨b', h1, h2⟩ := boxAt_low (h id (by simp [refsV, ref1])) hb
    obtain ⟨e1, e2, e3, e4, e5⟩ := low_eqs h2
    simp only [h1, e4]

theorem loadD_sim {E : Env} {t : TypeId} {a : V} (h : SimAt (refsV a) H H') : loadD E H' t a = loadD E H t a := by
  unfold loadD
  split
  · rfl
  · split <;> try rfl
    rename_i id j off tot
    cases hb : boxAt H id tot with
    | none => rw [boxAt_none (h id (by simp [refsV, ref1])) hb]
    | some b =>
      obtain ⟨b', h1, h2⟩ := boxAt_low (h id (by simp [refsV, ref1])) hb
      obtain ⟨e1, e2, e3, e4, e5⟩ := low_eqs h2
      simp only [h1, e5]

theorem indexAddrD_sim {E : Env} {t : TypeId} {x i : V} (h : SimAt (refsV x) H H') : indexAddrD E H' t x i = indexAddrD E H t x i := by
  unfold indexAddrD
  split <;> try rfl
  split <;> try rfl
  rename_i id off len tot hty
  cases hb : boxAt H id tot with
  | none => rw [boxAt_none (h id (by simp [refsV, ref1])) hb]
  | some b =>
    obtain ⟨b', h1, h2⟩ := boxAt_low (h id (by simp [refsV, ref1])) hb
    obtain ⟨e1, e2, e3, e4, e5⟩ := low_eqs h2
    simp only [h1, e4]

theorem sliceFits_sim {E : Env} {t : TypeId} {x : V} (h : SimAt (refsV x) H H') : sliceFits E H' t x = sliceFits E H t x := by
  unfold sliceFits
  split <;> try rfl
  split <;> try rfl
  split <;> try rfl
  rw [eszIs_sim h]

end

/-! ### what an operation that does not write does to the boxes -/

def eff (ids : List Nat) (nb : Option Box) (k : Nat) (H : Heap) : Heap :=
  match nb with
  | none => bump H ids
  | some b => place (bump H ids) k b

/-- What the pure calls are asked for. -/
def PureOK (E : Env) (call : CallF) : Prop :=
  ∀ f, ((E.pure f || (E.env f).isSome) && (E.own f).isNone) = true → ∀ args H v H1, call f args H = some (v, H1) →
    H1 = bump H (args.flatMap idsA) ∧ ∀ H', SimAt (args.flatMap refsV) H H' → call f args H' = some (v, bump H' (args.flatMap idsA))
/-- What is asked of calls that are given no boxes, and may leave some. -/
def FreeOK (E : Env) (call : CallF) : Prop :=
  ∀ f, freeF E f = true → ∀ args H v H1, call f args H = some (v, H1) →
    ∃ ids nbs, (∀ i ∈ ids, i ∈ args.flatMap refsV) ∧ H1 = bump H ids ++ nbs ∧ ∀ H', H'.length = H.length → SimAt (args.flatMap refsV) H H' → call f args H' = some (v, bump H' ids ++ nbs)
structure CallsOK (E : Env) (call : CallF) : Prop where
  pure : PureOK E call
  free : FreeOK E call

theorem ids1_ref {x : V} {i : Nat} (h : i ∈ ids1 x) : i ∈ ref1 x := by
  cases x <;> simp_all [ids1, ref1]
theorem idsA_refs {x : V} {i : Nat} (h : i ∈ idsA x) : i ∈ refsV x := by
  cases x with
  | agg cs =>
    simp only [idsA, refsV, List.mem_flatMap] at *
    obtain ⟨c, hc, hi⟩ := h
    exact ⟨c, hc, ids1_ref hi⟩
  | _ => simp_all [idsA, refsV, ids1, ref1]

theorem idsAs_refs {xs : List V} {i : Nat} (h : i ∈ xs.flatMap idsA) : i ∈ xs.flatMap refsV := by
  simp only [List.mem_flatMap] at *
  obtain ⟨c, hc, hi⟩ := h
  exact ⟨c, hc, idsA_refs hi⟩

theorem map_fix {y : Option V} {H H1 : Heap} {v : V} (h : y.map (·, H) = some (v, H1)) : y = some v ∧ H1 = H := by
  cases y with
  | none => cases h
  | some x => simp at h; exact ⟨by rw [h.1], h.2.symm⟩

/-- How an operation that does not write turns the boxes. -/
def Eff (call : CallF) (E : Env) (k : Nat) (H : Heap) (s : List V) (o : Oper) (v : V) (H1 : Heap) : Prop :=
  ∃ ids nb, (∀ i ∈ ids, i ∈ refsO E s o) ∧ (nb.isSome = true → clsOf E o = .a) ∧ H1 = eff ids nb k H ∧
    ∀ H' k', (clsOf E o = .a → k' = k) → SimAt (refsO E s o) H H' → opD call E k' H' s o = some (v, eff ids nb k' H')

theorem eff_nil (k : Nat) (H : Heap) : eff [] none k H = H := rfl

theorem eff_read {call : CallF} {E : Env} {k : Nat} {H H1 : Heap} {s : List V} {o : Oper} {v : V} {y : Heap → Option V} (he : ∀ H k, opD call E k H s o = (y H).map (·, H))
    (h : opD call E k H s o = some (v, H1)) (hy : ∀ H', SimAt (refsO E s o) H H' → y H' = y H) : Eff call E k H s o v H1 := by
  rw [he] at h
  obtain ⟨h1, h2⟩ := map_fix h
  exact ⟨[], none, by simp, by simp, h2, fun H' k' _ hs => by rw [he, hy H' hs, h1]; rfl⟩

theorem sim_op {E : Env} {s : List V} {o : Oper} {H H' : Heap} (h : SimAt (refsO E s o) H H') {x : Operand} (hx : x ∈ o.op.operands) : SimAt (refsV (ev E s x)) H H' := fun i hi =>
  h i (List.mem_flatMap.2 ⟨x, by simpa using hx, hi⟩)

/-- Slots only. -/
theorem opD_s {call : CallF} {E : Env} {k : Nat} {H H1 : Heap} {s : List V} {o : Oper} {v : V} (hc : clsOf E o = .s) (h : opD call E k H s o = some (v, H1)) :
    H1 = H ∧ ∀ H' k', opD call E k' H' s o = some (v, H') := by
  have key : ∀ y : Option V, (∀ H k, opD call E k H s o = y.map (·, H)) → H1 = H ∧ ∀ H' k', opD call E k' H' s o = some (v, H') := by
    intro y he
    rw [he] at h
    obtain ⟨h1, h2⟩ := map_fix h
    exact ⟨h2, fun H' k' => by rw [he, h1]; rfl⟩
  obtain ⟨dst, op, type, pos, after, guard⟩ := o
  cases op <;> simp only [clsOf] at hc <;> try (cases hc; done)
  case slice t x lo hi mx => cases mx <;> cases hc
  case convert => split at hc <;> cases hc
  case move x => exact key (some (ev E s x)) (fun H k => rfl)
  case pick c x y =>
    refine key (match ev E s c with | .lit (.bool t) => some (if t then ev E s x else ev E s y) | _ => none) (fun H k => ?_)
    simp only [opD]
    split <;> simp_all
  case build t ps => exact key (buildD E t (ps.toList.map fun (i, x) => (i, ev E s x))) (fun H k => rfl)
  case binOp op t x y z => exact key (binD E op t (ev E s x) (ev E s y)) (fun H k => rfl)
  case unOp op t x => exact key (unD op (ev E s x)) (fun H k => rfl)
  case sliceToArrayPointer t x => exact key (arrA E t (ev E s x)) (fun H k => rfl)
  case field t x f => exact key (fieldD E t (ev E s x) f) (fun H k => rfl)
  case fieldAddr t x f => exact key (fieldAddrD E t (ev E s x) f) (fun H k => rfl)
  case index t x i => exact key (indexD E t (ev E s x) (ev E s i)) (fun H k => rfl)
  case nilCheck x =>
    refine key (match isNilV (ev E s x) with | some false => some (ev E s x) | _ => none) (fun H k => ?_)
    simp only [opD]
    split <;> simp_all
  case extract x i =>
    refine key (match ev E s x with | .tup vs => vs[i]? | _ => none) (fun H k => ?_)
    simp only [opD]
    split <;> simp_all
  case makeFunc fn first caps =>
    cases fn with
    | func f => exact key (some (.fn f (evs E s first) (evs E s caps))) (fun H k => rfl)
    | _ => simp [opD] at h
  case assign x =>
    by_cases hx : x = .const (.slice none 0 0)
    · subst hx; cases hc
    · refine key (some (ev E s x)) (fun H k => ?_)
      unfold opD
      split <;> simp_all
  case call c =>
    split at hc
    · cases hc
    · rename_i hcal
      exact key (minmax false (evs E s c.args)) (fun H k => by simp only [opD, hcal]; rfl)
    · rename_i hcal
      exact key (minmax true (evs E s c.args)) (fun H k => by simp only [opD, hcal]; rfl)
    · split at hc
      · cases hc
      · split at hc <;> cases hc
    · cases hc

theorem convD_heap {E : Env} {H H' : Heap} {src dst : TypeId} {x r : V} (h : convD E H src dst x = some (r, H')) : H' = H := by
  unfold convD at h
  split at h
  · split at h
    · split at h
      · cases h; rfl
      · cases h
    · cases h
  · split at h
    · cases h; rfl
    · cases h
  · split at h
    · split at h
      · split at h
        · split at h
          · cases h; rfl
          · cases h
        · cases h
      · cases h
    · cases h

theorem sliceD_heap {E : Env} {H H' : Heap} {t : TypeId} {x r : V} {lo hi : Option V} (h : sliceD E H t x lo hi none = some (r, H')) : H' = H := by
  unfold sliceD at h
  split at h
  · split at h
    · cases h
    · split at h
      · cases h
      · split at h
        · cases h
        · split at h
          · cases ‹none = some _›
          · split at h <;> cases h <;> rfl
  · cases h

theorem sim_args {E : Env} {s : List V} {o : Oper} {c : Call} (hop : o.op = .call c) {H H' : Heap} (h : SimAt (refsO E s o) H H') : SimAt ((evs E s c.args).flatMap refsV) H H' := by
  intro i hi
  simp only [evs, List.mem_flatMap, List.mem_map] at hi
  obtain ⟨v, ⟨x, hx, rfl⟩, hi⟩ := hi
  refine h i (List.mem_flatMap.2 ⟨x, ?_, hi⟩)
  simp at hx
  simp [hop, Op.operands, Call.operands, hx]

theorem args_refs {E : Env} {s : List V} {o : Oper} {c : Call} (hop : o.op = .call c) {i : Nat} (hi : i ∈ (evs E s c.args).flatMap refsV) : i ∈ refsO E s o := by
  simp only [evs, List.mem_flatMap, List.mem_map] at hi
  obtain ⟨v, ⟨x, hx, rfl⟩, hi⟩ := hi
  refine List.mem_flatMap.2 ⟨x, ?_, hi⟩
  simp at hx
  simp [hop, Op.operands, Call.operands, hx]

theorem parts_refs {E : Env} {s : List V} {o : Oper} {t : TypeId} {n : Nat} {ps : Array (Nat × Operand)} (hop : o.op = .buildSlice t n ps) {i : Nat}
    (hi : i ∈ ((ps.toList.map fun (i, x) => (i, ev E s x)).map (·.2)).flatMap refsV) : i ∈ refsO E s o := by
  simp only [List.map_map, List.mem_flatMap, List.mem_map] at hi
  obtain ⟨v, ⟨p, hp, rfl⟩, hi⟩ := hi
  refine List.mem_flatMap.2 ⟨p.2, ?_, hi⟩
  simp only [hop, Op.operands]
  exact List.mem_map.2 ⟨p, hp, rfl⟩

theorem sliceA_eff {E : Env} {H H1 : Heap} {n : Nat} {e : TypeId} {x v : V} {lo hi mx : Option V} (h : sliceA E H n e x lo hi mx = some (v, H1)) :
    ∃ ids, (∀ i ∈ ids, i ∈ refsV x) ∧ H1 = bump H ids ∧ ∀ H', SimAt (refsV x) H H' → sliceA E H' n e x lo hi mx = some (v, bump H' ids) := by
  unfold sliceA at h
  split at h
  · rename_i id i off tot m' hm'
    cases hb : boxAt H id tot with
    | none => simp [hb] at h
    | some b =>
      simp only [hb] at h
      split at h
      · rename_i cs hrow hxs
        split at h
        · rename_i hc
          simp only [Option.some.injEq, Prod.mk.injEq] at h
          obtain ⟨rfl, rfl⟩ := h
          refine ⟨[id], by simp [refsV, ref1], rfl, fun H' hs => ?_⟩
          obtain ⟨b', h1, h2⟩ := boxAt_low (hs id (by simp [refsV, ref1])) hb
          obtain ⟨e1, e2, e3, e4, e5⟩ := low_eqs h2
          unfold sliceA
          simp only [hm', h1, e1, e5, hrow, hxs]
          rw [if_pos hc]
        · cases h
      · cases h
  · cases h

/-- Whatever does not write. -/
theorem opD_eff {call : CallF} {E : Env} (hpure : PureOK E call) {k : Nat} {H H1 : Heap} {s : List V} {o : Oper} {v : V} (hc : clsOf E o ≠ .w) (hcc : clsOf E o ≠ .c) (h : opD call E k H s o = some (v, H1)) :
    Eff call E k H s o v H1 := by
  by_cases hs : clsOf E o = .s
  · obtain ⟨h1, h2⟩ := opD_s hs h
    exact ⟨[], none, by simp, by simp, h1, fun H' k' _ _ => h2 H' k'⟩
  have mk : ∀ (nb : Option Box), clsOf E o = .a → (nb.isSome = true) → (∀ H k, opD call E k H s o = nb.map fun b => ((if b.row then V.lsl k 0 b.xs.length b.xs.length else V.ptr k 0 0 1), place H k b)) → Eff call E k H s o v H1 := by
    intro nb hca hnb he
    cases nb with
    | none => cases hnb
    | some b =>
      rw [he] at h
      simp only [Option.map_some, Option.some.injEq, Prod.mk.injEq] at h
      obtain ⟨h1, h2⟩ := h
      refine ⟨[], some b, by simp, fun _ => hca, h2.symm, fun H' k' hk _ => ?_⟩
      rw [he, hk hca]
      simp only [Option.map_some, h1]
      rfl
  obtain ⟨dst, op, type, pos, after, guard⟩ := o
  cases op <;> try (refine absurd ?_ hs; simp [clsOf]; done)
  case assign x =>
    by_cases hx : x = .const (.slice none 0 0)
    · subst hx
      cases hti : E.ti type with
      | none => simp [opD, hti] at h
      | some i =>
        obtain ⟨ty, sz, by', z0⟩ := i
        cases ty with
        | slice e => exact mk (some (newBox true false e ((E.size e).getD 0) [])) rfl rfl (fun H k => by simp only [opD, hti, Option.map_some]; rfl)
        | _ => simp [opD, hti] at h
    · refine absurd ?_ hs
      unfold clsOf
      split <;> simp_all
  case alloc t =>
    cases hti : E.ti t with
    | none => simp [opD, hti] at h
    | some i =>
      cases hz : i.zero with
      | none => simp [opD, hti, hz] at h
      | some z =>
        by_cases hcond : z.cells.length = i.size ∧ okV z = true
        · exact mk (some (newBox false false t i.size [z])) rfl rfl (fun H k => by simp only [opD, hti, hz, hcond, and_self, if_true, Option.map_some]; rfl)
        · simp [opD, hti, hz, hcond] at h
  case box t x =>
    cases hti : E.ti t with
    | none => simp [opD, hti] at h
    | some i =>
      by_cases hcond : (ev E s x).cells.length = i.size ∧ okV (ev E s x) = true
      · exact mk (some (newBox false false t i.size [ev E s x])) rfl rfl (fun H k => by simp only [opD, hti, hcond, and_self, if_true, Option.map_some]; rfl)
      · simp [opD, hti, hcond] at h
  case makeSlice t l c =>
    have hlen : ∀ (n : Int) (z : V), (List.replicate n.toNat z).length = n.toNat := fun n z => by simp
    cases hti : E.ti t with
    | none => simp [opD, hti] at h
    | some i =>
      obtain ⟨ty, sz, by', z0⟩ := i
      cases ty with
      | slice e =>
        cases hl : ev E s l with
        | lit lv =>
          cases lv with
          | int k1 n =>
            cases hcv : ev E s c with
            | lit cv =>
              cases cv with
              | int k2 m =>
                cases hei : E.ti e with
                | none => simp [opD, hti, hl, hcv, hei] at h
                | some ei =>
                  cases hz : ei.zero with
                  | none => simp [opD, hti, hl, hcv, hei, hz] at h
                  | some z =>
                    by_cases hcond : 0 ≤ n ∧ n ≤ m ∧ m.toNat * ei.bytes ≤ lim ∧ m ≤ maxLen ∧ 0 < ei.size ∧ z.cells.length = ei.size ∧ okV z = true
                    · refine mk (some (newBox true false e ei.size (List.replicate n.toNat (retype (E.rows e) z)))) rfl rfl (fun H k => ?_)
                      simp only [opD, hti, hl, hcv, hei, hz, Option.map_some]
                      rw [if_pos hcond]
                      simp [newBox]
                    · simp only [opD, hti, hl, hcv, hei, hz] at h
                      rw [if_neg hcond] at h
                      cases h
              | _ => simp [opD, hti, hl, hcv] at h
            | _ => simp [opD, hti, hl, hcv] at h
          | _ => simp [opD, hti, hl] at h
        | _ => simp [opD, hti, hl] at h
      | _ => simp [opD, hti] at h
  case buildSlice t n ps =>
    have he : ∀ H k, opD call E k H s { dst := dst, op := .buildSlice t n ps, type := type, pos := pos, after := after, guard := guard } = buildSliceD E k H t n (ps.toList.map fun (i, x) => (i, ev E s x)) := fun H k => rfl
    have hrefs := fun i => parts_refs (E := E) (s := s) (o := { dst := dst, op := .buildSlice t n ps, type := type, pos := pos, after := after, guard := guard }) rfl (i := i)
    rw [he] at h
    generalize (ps.toList.map fun (i, x) => (i, ev E s x)) = parts at he h hrefs
    unfold buildSliceD at h
    split at h
    · rename_i e sz by' z0 hti
      split at h
      · rename_i ei hei
        split at h
        · rename_i z vs hz hf
          split at h
          · rename_i hcond
            split at h
            · rename_i xs hfe
              simp only [Option.some.injEq, Prod.mk.injEq] at h
              obtain ⟨h1, h2⟩ := h
              refine ⟨(parts.map (fun p : Nat × V => p.2)).flatMap idsA, some (newBox true false e ei.size xs), fun i hi => hrefs i (idsAs_refs hi), fun _ => by simp [clsOf], h2.symm, fun H' k' hk hs => ?_⟩
              have hfr : frzAll H' (parts.map (·.2)) = some vs := by rw [frzAll_sim (fun i hi => hs i (hrefs i hi))]; exact hf
              have hkk : k' = k := hk (by simp [clsOf])
              rw [he, hkk, ← h1]
              simp only [buildSliceD, hti, hei, hz, hfr, hfe]
              rw [if_pos hcond]
              rfl
            · cases h
          · cases h
        · cases h
      · cases h
    · cases h
  case load t x => exact eff_read (y := fun H => loadD E H t (ev E s x)) (fun H k => rfl) h (fun H' hs => loadD_sim (sim_op hs (by simp [Op.operands])))
  case indexAddr t x i => exact eff_read (y := fun H => indexAddrD E H t (ev E s x) (ev E s i)) (fun H k => rfl) h (fun H' hs => indexAddrD_sim (sim_op hs (by simp [Op.operands])))
  case convert src dst2 x =>
    have hx : x ∈ (Op.convert src dst2 x).operands := by simp [Op.operands]
    by_cases hb : (E.isStr src && E.isBytes dst2) = true
    · have hca : clsOf E { dst := dst, op := .convert src dst2 x, type := type, pos := pos, after := after, guard := guard } = .a := by simp only [clsOf]; rw [if_pos hb]
      have he : ∀ H k, opD call E k H s { dst := dst, op := .convert src dst2 x, type := type, pos := pos, after := after, guard := guard } = convS E k H dst2 (ev E s x) := fun H k => by simp only [opD]; rw [if_pos hb]
      cases hev : ev E s x with
      | lit v =>
        cases v with
        | string st =>
          cases hti : E.ti dst2 with
          | none => rw [he, hev] at h; simp [convS, hti] at h
          | some i =>
            obtain ⟨ty, sz, by', z0⟩ := i
            cases ty with
            | slice e =>
              by_cases h1 : E.size e = some 1
              · exact mk (some (newBox true false e 1 (bytesV st))) hca rfl (fun H k => by rw [he, hev]; simp only [convS, hti, h1, if_true, Option.map_some]; rw [show (newBox true false e 1 (bytesV st)).xs.length = st.size from by simp only [newBox, bytesV, List.length_map]; exact Array.length_toList]; rfl)
              · rw [he, hev] at h; simp [convS, hti, h1] at h
            | _ => rw [he, hev] at h; simp [convS, hti] at h
        | _ => rw [he, hev] at h; simp [convS] at h
      | _ => rw [he, hev] at h; simp [convS] at h
    have hcv0 : ∀ H k, opD call E k H s { dst := dst, op := .convert src dst2 x, type := type, pos := pos, after := after, guard := guard } = convD E H src dst2 (ev E s x) := fun H k => by simp only [opD]; rw [if_neg hb]
    refine eff_read (y := fun H => (convD E H src dst2 (ev E s x)).map (·.1)) (fun H k => ?_) h (fun H' hs => ?_)
    · rw [hcv0]
      cases hcv : convD E H src dst2 (ev E s x) with
      | none => rfl
      | some r =>
        obtain ⟨r, H2⟩ := r
        have := convD_heap hcv
        subst this
        rfl
    · have h1 := sim_op hs hx
      simp only [convD]
      generalize ev E s x = ex at h1 ⊢
      split
      · split
        · split <;> rfl
        · rfl
      · split <;> rfl
      · rw [eszIs_sim h1, elemsOf_sim h1]
        split
        · split
          · split
            · split <;> rfl
            · rfl
          · rfl
        · rfl
  case slice t x lo hi mx =>
    cases mx with
    | some m => exact absurd (by simp [clsOf]) hc
    | none =>
      have hx : x ∈ (Op.slice t x lo hi none).operands := by simp [Op.operands]
      by_cases harr : ∃ n e sz by' z0, E.ti t = some ⟨.array n e, sz, by', z0⟩
      · obtain ⟨n, e, sz, by', z0, hti⟩ := harr
        have he : ∀ H k, opD call E k H s { dst := dst, op := .slice t x lo hi none, type := type, pos := pos, after := after, guard := guard } = sliceA E H n e (ev E s x) (lo.map (ev E s)) (hi.map (ev E s)) none := fun H k => by simp only [opD, hti]; rfl
        rw [he] at h
        obtain ⟨ids, g1, g2, g3⟩ := sliceA_eff h
        exact ⟨ids, none, fun i hi => List.mem_flatMap.2 ⟨x, by simpa using hx, g1 i hi⟩, by simp, g2, fun H' k' _ hs => by rw [he]; exact g3 H' (sim_op hs hx)⟩
      have hnd : ∀ H k, opD call E k H s { dst := dst, op := .slice t x lo hi none, type := type, pos := pos, after := after, guard := guard } = sliceD E H t (ev E s x) (lo.map (ev E s)) (hi.map (ev E s)) none := fun H k => by
        simp only [opD]
        split
        · rename_i n e sz by' z0 hti
          exact absurd ⟨n, e, sz, by', z0, hti⟩ harr
        · rfl
      refine eff_read (y := fun H => (sliceD E H t (ev E s x) (lo.map (ev E s)) (hi.map (ev E s)) none).map (·.1)) (fun H k => ?_) h (fun H' hs => ?_)
      · rw [hnd]
        cases hcv : sliceD E H t (ev E s x) (lo.map (ev E s)) (hi.map (ev E s)) none with
        | none => rfl
        | some r =>
          obtain ⟨r, H2⟩ := r
          have := sliceD_heap hcv
          subst this
          rfl
      · have h1 := sim_op hs hx
        generalize ev E s x = ex at h1 ⊢
        simp only [sliceD]
        rw [sliceFits_sim h1, lenOf_sim h1]
        split
        · split
          · rfl
          · split
            · rfl
            · split
              · rfl
              · split <;> rfl
        · rfl
  case call c =>
    cases hcal : c.callee with
    | invoke r n => exact absurd (by simp [clsOf, hcal]) hc
    | builtin b =>
      by_cases hb : b = .len
      · subst hb
        have he : ∀ H k, opD call E k H s { dst := dst, op := .call c, type := type, pos := pos, after := after, guard := guard } = builtinD E k H s .len (evs E s c.args) c.argTypes.toList := fun H k => by simp only [opD, hcal]
        refine eff_read (y := fun H => (builtinD E 0 H s .len (evs E s c.args) c.argTypes.toList).map (·.1)) (fun H k => ?_) h (fun H' hs => ?_)
        · rw [he]
          unfold builtinD
          split <;> try rfl
          · split
            · cases lenOf H _ <;> rfl
            · rfl
          all_goals simp_all
        · have h1 := sim_args rfl hs
          generalize evs E s c.args = xs at h1 ⊢
          simp only [builtinD]
          split <;> try rfl
          · split
            · rw [lenOf_sim (fun i hi => h1 i (by simpa using hi))]
              rename_i x t _ _ _
              cases lenOf H x <;> rfl
            · rfl
          all_goals simp_all
      · exfalso
        revert hc hs
        unfold clsOf
        cases b <;> simp_all
    | value f =>
      cases f with
      | func f =>
        by_cases hp : ((E.pure f || (E.env f).isSome) && (E.own f).isNone) = true
        · have he : ∀ H k, opD call E k H s { dst := dst, op := .call c, type := type, pos := pos, after := after, guard := guard } = call f (evs E s c.args) H := fun H k => by simp [opD, hcal, ev]
          rw [he] at h
          obtain ⟨h1, h2⟩ := hpure f hp _ _ _ _ h
          refine ⟨(evs E s c.args).flatMap idsA, none, fun i hi => args_refs rfl (idsAs_refs hi), by simp, h1, fun H' k' _ hs => ?_⟩
          rw [he]
          exact h2 H' (sim_args rfl hs)
        · by_cases hfr : freeF E f = true
          · exact absurd (by unfold clsOf; simp only [hcal]; rw [if_neg hp, if_pos hfr]) hcc
          · exact absurd (by unfold clsOf; simp only [hcal]; rw [if_neg hp, if_neg hfr]) hc
      | _ => exact absurd (by simp [clsOf, hcal]) hc
  all_goals (refine absurd ?_ hc; simp [clsOf]; done)

/-- A call that is given no boxes. -/
theorem opD_free {call : CallF} {E : Env} (hfree : FreeOK E call) {k : Nat} {H H1 : Heap} {s : List V} {o : Oper} {v : V} (hc : clsOf E o = .c) (h : opD call E k H s o = some (v, H1)) :
    ∃ ids nbs, (∀ i ∈ ids, i ∈ refsO E s o) ∧ H1 = bump H ids ++ nbs ∧ ∀ H' k', H'.length = H.length → SimAt (refsO E s o) H H' → opD call E k' H' s o = some (v, bump H' ids ++ nbs) := by
  obtain ⟨dst, op, type, pos, after, guard⟩ := o
  cases op <;> simp only [clsOf] at hc <;> first | (cases hc; done) | skip
  case slice t x lo hi mx => cases mx <;> cases hc
  case convert => split at hc <;> cases hc
  case assign x => exfalso; revert hc; split <;> simp_all
  case call c =>
    cases hcal : c.callee with
    | builtin b => exfalso; revert hc; simp only [hcal]; cases b <;> simp
    | invoke r n => exfalso; revert hc; simp [hcal]
    | value f =>
    cases f with
    | tmp _ => exfalso; revert hc; simp [hcal]
    | const _ => exfalso; revert hc; simp [hcal]
    | global _ => exfalso; revert hc; simp [hcal]
    | func f =>
    simp only [hcal] at hc
    split at hc
    · cases hc
    · split at hc
      · rename_i hfr
        have he : ∀ H k, opD call E k H s { dst := dst, op := .call c, type := type, pos := pos, after := after, guard := guard } = call f (evs E s c.args) H := fun H k => by simp [opD, hcal, ev]
        rw [he] at h
        obtain ⟨ids, nbs, h1, h2, h3⟩ := hfree f hfr _ _ _ _ h
        exact ⟨ids, nbs, fun i hi => args_refs rfl (h1 i hi), h2, fun H' k' hl hs => by rw [he]; exact h3 H' hl (sim_args rfl hs)⟩
      · cases hc

end Go.Proofs.YtkepnndakhpgoaaGreatDoor.Le

/-
  An evaluator for the model's code over pure values: two operations that no edge orders may change places.
-/
namespace Go.Proofs.YtkepnndakhpgoaaGreatDoor.Le
set_option linter.unusedVariables false

def bumpB (ids : List Nat) (i : Nat) (b : Box) : Box := if i ∈ ids then { b with floor := b.xs.length } else b

theorem eff_get {ids : List Nat} {nb : Option Box} {k : Nat} {H : Heap} (hk : nb.isSome = true → k < H.length) (i : Nat) :
    (eff ids nb k H)[i]? = match nb with | some b => if i = k then some b else (H[i]?).map (bumpB ids i) | none => (H[i]?).map (bumpB ids i) := by
  cases nb with
  | none => simp only [eff]; rw [bump_get]; rfl
  | some b =>
    have hk' : k < (bump H ids).length := by rw [bump_length]; exact hk rfl
    simp only [eff, place]
    rw [if_pos hk', List.getElem?_set]
    by_cases hi : i = k
    · subst hi; simp [hk']
    · rw [if_neg (fun e => hi e.symm), if_neg hi, bump_get]; rfl

theorem eff_length {ids : List Nat} {nb : Option Box} {k : Nat} {H : Heap} (hk : nb.isSome = true → k < H.length) : (eff ids nb k H).length = H.length := by
  cases nb with
  | none => exact bump_length H ids
  | some b =>
    have hk' : k < (bump H ids).length := by rw [bump_length]; exact hk rfl
    simp only [eff, place]
    rw [if_pos hk', List.length_set, bump_length]

theorem bumpB_comm (ids1 ids2 : List Nat) (i : Nat) (b : Box) : bumpB ids1 i (bumpB ids2 i b) = bumpB ids2 i (bumpB ids1 i b) := by
  unfold bumpB
  by_cases h1 : i ∈ ids1 <;> by_cases h2 : i ∈ ids2 <;> simp [h1, h2]

theorem eff_comm {ids1 ids2 : List Nat} {nb1 nb2 : Option Box} {k1 k2 : Nat} {H : Heap} (h1 : nb1.isSome = true → k1 < H.length ∧ k1 ∉ ids2) (h2 : nb2.isSome = true → k2 < H.length ∧ k2 ∉ ids1)
    (hne : nb1.isSome = true → nb2.isSome = true → k1 ≠ k2) : eff ids1 nb1 k1 (eff ids2 nb2 k2 H) = eff ids2 nb2 k2 (eff ids1 nb1 k1 H) := by
  have l1 := eff_length (ids := ids1) (fun h => (h1 h).1)
  have l2 := eff_length (ids := ids2) (fun h => (h2 h).1)
  apply List.ext_getElem?
  intro i
  rw [eff_get (ids := ids1) (H := eff ids2 nb2 k2 H) (fun h => by rw [l2]; exact (h1 h).1), eff_get (ids := ids2) (H := eff ids1 nb1 k1 H) (fun h => by rw [l1]; exact (h2 h).1), eff_get (ids := ids1) (H := H) (fun h => (h1 h).1), eff_get (ids := ids2) (H := H) (fun h => (h2 h).1)]
  cases nb1 with
  | none =>
    cases nb2 with
    | none =>
      simp only
      cases H[i]? with
      | none => rfl
      | some b => simp only [Option.map_some, bumpB_comm]
    | some b2 =>
      simp only
      by_cases hi : i = k2
      · subst hi
        simp only [if_true, Option.map_some]
        simp [bumpB, (h2 rfl).2]
      · simp only [hi, if_false]
        cases H[i]? with
        | none => rfl
        | some b => simp only [Option.map_some, bumpB_comm]
  | some b1 =>
    cases nb2 with
    | none =>
      simp only
      by_cases hi : i = k1
      · subst hi
        simp only [if_true, Option.map_some]
        simp [bumpB, (h1 rfl).2]
      · simp only [hi, if_false]
        cases H[i]? with
        | none => rfl
        | some b => simp only [Option.map_some, bumpB_comm]
    | some b2 =>
      have hkk := hne rfl rfl
      simp only
      by_cases hi : i = k1
      · subst hi
        rw [if_pos rfl, if_neg hkk, if_pos rfl]
        simp [bumpB, (h1 rfl).2]
      · by_cases hj : i = k2
        · subst hj
          rw [if_neg hi, if_pos rfl, if_pos rfl]
          simp [bumpB, (h2 rfl).2]
        · rw [if_neg hi, if_neg hj, if_neg hj, if_neg hi]
          cases H[i]? with
          | none => rfl
          | some b => simp only [Option.map_some, bumpB_comm]

theorem bumpB_low (ids : List Nat) (i : Nat) (b : Box) : (bumpB ids i b).low = b.low := by
  unfold bumpB
  split <;> rfl

theorem eff_sim {R ids : List Nat} {nb : Option Box} {k : Nat} {H : Heap} (hk : nb.isSome = true → k < H.length ∧ k ∉ R) : SimAt R H (eff ids nb k H) := by
  intro i hi
  rw [eff_get (fun h => (hk h).1)]
  cases nb with
  | none =>
    simp only
    cases H[i]? with
    | none => rfl
    | some b => simp only [Option.map_some, bumpB_low]
  | some b =>
    have : i ≠ k := fun e => (hk rfl).2 (e ▸ hi)
    simp only [this, if_false]
    cases H[i]? with
    | none => rfl
    | some b => simp only [Option.map_some, bumpB_low]

theorem SimAt.symm {R : List Nat} {H H' : Heap} (h : SimAt R H H') : SimAt R H' H := fun i hi => (h i hi).symm

theorem eff_dead {ids : List Nat} {nb : Option Box} {k j : Nat} {H : Heap} (hk : nb.isSome = true → k < H.length ∧ k ≠ j) : (∃ b, (eff ids nb k H)[j]? = some b ∧ b.live = false) ↔ ∃ b, H[j]? = some b ∧ b.live = false := by
  rw [eff_get (fun h => (hk h).1)]
  have hm : (∃ b, (H[j]?).map (bumpB ids j) = some b ∧ b.live = false) ↔ ∃ b, H[j]? = some b ∧ b.live = false := by
    cases H[j]? with
    | none => simp
    | some b =>
      simp only [Option.map_some, Option.some.injEq, exists_eq_left']
      unfold bumpB
      split <;> rfl
  cases nb with
  | none => exact hm
  | some b =>
    have : j ≠ k := fun e => (hk rfl).2 e.symm
    simp only [this, if_false]
    exact hm

section
variable {call : CallF} {E : Env} {ops : Array Oper} {ms : List Nat} {lt : List (Nat × (Nat ⊕ Nat))} {s0 : List V} {base m : Nat}

def kOf (E : Env) (o : Oper) (base i : Nat) (H : Heap) : Nat := if clsOf E o = .a then base + i else H.length

def seesOK (E : Env) (ops : Array Oper) (ms : List Nat) (base m i : Nat) (s : List V) (o : Oper) : Prop := ∀ id ∈ refsO E s o, id < base ∨ (base + m ≤ id ∧ freeAt E ops ms i = true) ∨ (id < base + m ∧ (ms.getD i 0).testBit (id - base) = true)

theorem stepR_iff {i : Nat} {o : Oper} (ho : ops[i]? = some o) {st st' : St} : stepR call E ops ms lt s0 base m i st = some st' ↔
    seesOK E ops ms base m i st.s o ∧ (lateD E ms lt s0 base i st.s st.H o = true ∧ (clsOf E o = .c → base + m ≤ st.H.length)) ∧ (clsOf E o = .a → ∃ b, st.H[base + i]? = some b ∧ b.live = false) ∧ ∃ v H', actD call E ops (kOf E o base i st.H) o st = some (v, H') ∧ st' = ⟨setSlot st.s o.dst v, H'⟩ := by
  have hst : ∀ k, stepAt call E ops k i st = some st' ↔ ∃ v H', actD call E ops k o st = some (v, H') ∧ st' = ⟨setSlot st.s o.dst v, H'⟩ := by
    intro k
    unfold stepAt
    simp only [ho]
    cases hact : actD call E ops k o st with
    | none => simp
    | some r =>
      obtain ⟨v, H'⟩ := r
      simp only [Option.some.injEq, Prod.mk.injEq]
      exact ⟨fun h => ⟨v, H', ⟨rfl, rfl⟩, h.symm⟩, fun ⟨v1, H1, ⟨e1, e2⟩, e3⟩ => by subst e1; subst e2; exact e3.symm⟩
  unfold stepR
  simp only [ho]
  have hsee : (((refsO E st.s o).all fun id => decide (id < base) || (decide (base + m ≤ id) && freeAt E ops ms i) || (decide (id < base + m) && (ms.getD i 0).testBit (id - base))) && (lateD E ms lt s0 base i st.s st.H o && (!decide (clsOf E o = .c) || decide (base + m ≤ st.H.length)))) = true ↔
      seesOK E ops ms base m i st.s o ∧ lateD E ms lt s0 base i st.s st.H o = true ∧ (clsOf E o = .c → base + m ≤ st.H.length) := by
    unfold seesOK
    rw [Bool.and_eq_true, Bool.and_eq_true, List.all_eq_true]
    have hc : (!decide (clsOf E o = .c) || decide (base + m ≤ st.H.length)) = true ↔ (clsOf E o = .c → base + m ≤ st.H.length) := by
      by_cases h : clsOf E o = .c <;> simp [h]
    rw [hc]
    simp only [Bool.or_eq_true, Bool.and_eq_true, decide_eq_true_eq, or_assoc]
  by_cases hs : seesOK E ops ms base m i st.s o ∧ lateD E ms lt s0 base i st.s st.H o = true ∧ (clsOf E o = .c → base + m ≤ st.H.length)
  · rw [if_pos (hsee.2 hs)]
    unfold kOf
    by_cases hca : clsOf E o = .a
    · rw [if_pos hca, if_pos hca]
      cases hb : st.H[base + i]? with
      | none => simp [hca]
      | some b =>
        cases hl : b.live with
        | true => simp [hl, hca]
        | false => simp only [hl, Bool.false_eq_true, if_false, hst]; exact ⟨fun h => ⟨hs.1, hs.2, fun _ => ⟨b, rfl, hl⟩, h⟩, fun h => h.2.2.2⟩
    · rw [if_neg hca, if_neg hca, hst]
      exact ⟨fun h => ⟨hs.1, hs.2, fun hh => absurd hh hca, h⟩, fun h => h.2.2.2⟩
  · rw [if_neg (fun h => hs (hsee.1 h))]
    constructor
    · intro h; cases h
    · rintro ⟨h1, h2, _⟩; exact absurd ⟨h1, h2⟩ hs

theorem writesAt_op {o : Oper} {a : Operand} (h : writesAt o = some a) : (∃ t v, o.op = .store t a v) ∨ ∃ c x, o.op = .call c ∧ c.callee = .builtin .append ∧ c.args.toList = [a, x] := by
  unfold writesAt at h
  split at h
  · rename_i t a' v hop
    cases h
    exact .inl ⟨t, v, hop⟩
  · rename_i c hop
    split at h
    · rename_i a' x h1 h2
      cases h
      exact .inr ⟨c, x, hop, h1, h2⟩
    · cases h
  · cases h

theorem writesAt_mem {o : Oper} {a : Operand} (h : writesAt o = some a) : a ∈ o.op.operands := by
  rcases writesAt_op h with ⟨t, v, hop⟩ | ⟨c, x, hop, h1, h2⟩
  · simp [hop, Op.operands]
  · have : a ∈ c.args := by
      have : a ∈ c.args.toList := by rw [h2]; simp
      simpa using this
    simp [hop, Op.operands, Call.operands, this]

theorem tgtOf_w {o : Oper} {t : Nat ⊕ Nat} (h : tgtOf E ops o = some t) : clsOf E o = .w ∧ o.guard = none ∧ ∃ d, writesAt o = some (.tmp d) := by
  unfold tgtOf at h
  split at h
  · rename_i d hg hw
    refine ⟨?_, hg, ⟨d, hw⟩⟩
    rcases writesAt_op hw with ⟨t, v, hop⟩ | ⟨c, x, hop, h1, h2⟩
    · unfold clsOf; rw [hop]
    · unfold clsOf; rw [hop]; simp only [h1]
  · cases h

theorem lates_tgt {x : Nat} {t : Nat ⊕ Nat} (h : (x, t) ∈ lates E ops) : ∃ ox, ops[x]? = some ox ∧ tgtOf E ops ox = some t := by
  unfold lates at h
  simp only [List.mem_filterMap] at h
  obtain ⟨y, _, h⟩ := h
  split at h
  · rename_i ox hox
    split at h
    · rename_i t' ht
      split at h
      · simp only [Option.some.injEq, Prod.mk.injEq] at h
        obtain ⟨rfl, rfl⟩ := h
        exact ⟨ox, hox, ht⟩
      · cases h
    · cases h
  · cases h

theorem needs_w {o : Oper} (h : needs E o = true) : clsOf E o ≠ .w := by
  unfold needs at h
  intro hc
  rw [hc] at h
  cases h

theorem addrOf_set {s : List V} {o : Oper} {d : Option Tmp} {v : V} (h : ∀ d', d = some d' → d' ∉ o.looksAt ops) : addrOf E (setSlot s d v) o = addrOf E s o := by
  unfold addrOf
  split
  · rename_i a hw
    exact ev_set _ fun d' hd => looks_op (h d' hd) a (writesAt_mem hw)
  · rfl

theorem lateD_set {s : List V} {H : Heap} {i : Nat} {o : Oper} {d : Option Tmp} {v : V} (h : ∀ d', d = some d' → d' ∉ o.looksAt ops) : lateD E ms lt s0 base i (setSlot s d v) H o = lateD E ms lt s0 base i s H o := by
  unfold lateD
  rw [addrOf_set h, refsO_set h]

/-- What is not a store of that kind does not ask for the boxes. -/
theorem lateD_heap {s : List V} {H H' : Heap} {i : Nat} {o : Oper} (h : ∀ t, (i, t) ∉ lt) (hl : lateD E ms lt s0 base i s H o = true) : lateD E ms lt s0 base i s H' o = true := by
  unfold lateD at *
  rw [List.all_eq_true] at *
  intro p hp
  have hh := hl p hp
  have hne : p.1 ≠ i := fun e => h p.2 (by rw [← e]; exact hp)
  cases ht : tgtNo base s0 p.2 with
  | none => rw [ht] at hh; cases hh
  | some k =>
    rw [ht] at hh
    simp only [if_neg hne] at hh ⊢
    exact hh

theorem lateD_same {s : List V} {H H' : Heap} {i : Nat} {o : Oper} (h : ∀ p ∈ lt, ∀ k, p.1 = i → tgtNo base s0 p.2 = some k → H'[k]? = H[k]?) (hl : lateD E ms lt s0 base i s H o = true) : lateD E ms lt s0 base i s H' o = true := by
  unfold lateD at *
  rw [List.all_eq_true] at *
  intro p hp
  have hh := hl p hp
  cases ht : tgtNo base s0 p.2 with
  | none => rw [ht] at hh; cases hh
  | some k =>
    rw [ht] at hh
    simp only at hh ⊢
    split
    · rename_i he
      rw [if_pos he] at hh
      have hk := h p hp k he ht
      unfold lateAt at *
      split at hh
      · rename_i id a b tot haddr
        simp only [Bool.and_eq_true, beq_iff_eq] at hh ⊢
        obtain ⟨rfl, hh⟩ := hh
        refine ⟨rfl, ?_⟩
        unfold boxAt at *
        rw [hk]
        exact hh
      · rename_i id a b tot haddr
        simp only [Bool.and_eq_true, beq_iff_eq] at hh ⊢
        obtain ⟨rfl, hh⟩ := hh
        refine ⟨rfl, ?_⟩
        rw [hk]
        exact hh
      · cases hh
    · rename_i he
      rw [if_neg he] at hh
      exact hh

theorem lateAt_same {H H' : Heap} {a : V} {k : Nat} (h : H'[k]? = H[k]?) (hl : lateAt H a k = true) : lateAt H' a k = true := by
  unfold lateAt at *
  split at hl
  · rename_i id i off tot
    simp only [Bool.and_eq_true, beq_iff_eq] at hl ⊢
    obtain ⟨rfl, hl⟩ := hl
    refine ⟨rfl, ?_⟩
    unfold boxAt at *
    rw [h]
    exact hl
  · rename_i id i off tot
    simp only [Bool.and_eq_true, beq_iff_eq] at hl ⊢
    obtain ⟨rfl, hl⟩ := hl
    refine ⟨rfl, ?_⟩
    rw [h]
    exact hl
  · cases hl

theorem store_late {H H1 : Heap} {t : TypeId} {a v : V} {k : Nat} (hl : lateAt H a k = true) (h : storeD E H t a v = some H1) :
    ∃ b, k < H.length ∧ H1 = H.set k b ∧ ∀ H', H'[k]? = H[k]? → storeD E H' t a v = some (H'.set k b) := by
  unfold lateAt at hl
  split at hl
  · rename_i id i off tot
    simp only [Bool.and_eq_true, beq_iff_eq] at hl
    obtain ⟨rfl, hl⟩ := hl
    cases hb : boxAt H id tot with
    | none => rw [hb] at hl; cases hl
    | some b =>
      rw [hb] at hl
      simp only [Bool.not_eq_true'] at hl
      have hlt : id < H.length := by
        unfold boxAt at hb
        cases hh : H[id]? with
        | none => rw [hh] at hb; cases hb
        | some b0 => exact (List.getElem?_eq_some_iff.1 hh).1
      have hb' : ∀ H' : Heap, H'[id]? = H[id]? → boxAt H' id tot = some b := fun H' he => by
        unfold boxAt at *
        rw [he]
        exact hb
      unfold storeD at h
      cases hti : E.ti t with
      | none => simp only [hti] at h; cases h
      | some ii =>
        simp only [hti, hb] at h
        cases hx : b.xs[i]? with
        | none => simp only [hx] at h; cases h
        | some x =>
          simp only [hx, hl, Bool.false_eq_true, if_false] at h
          split at h
          · rename_i hc
            cases hs : spliceV x off v.cells with
            | none => simp only [hs] at h; cases h
            | some x' =>
              simp only [hs] at h
              split at h
              · rename_i ho
                simp only [Option.some.injEq] at h
                refine ⟨_, hlt, h.symm, fun H' he => ?_⟩
                unfold storeD
                simp only [hti, hb' H' he, hx, hl, Bool.false_eq_true, if_false, if_pos hc, hs, if_pos ho]
              · cases h
          · cases h
  · unfold storeD at h
    split at h <;> cases h
  · cases hl

theorem append_late {H H1 : Heap} {k0 : Nat} {t u : TypeId} {a x r : V} {k : Nat} (hl : lateAt H a k = true) (h : appendD E k0 H t u a x = some (r, H1)) :
    ∃ b, k < H.length ∧ H1 = H.set k b ∧ ∀ k' H', H'[k]? = H[k]? → SimAt (refsV x) H H' → appendD E k' H' t u a x = some (r, H'.set k b) := by
  unfold lateAt at hl
  split at hl
  · unfold appendD at h
    split at h
    · split at h
      · split at h
        · cases h
        · cases h
      · cases h
    · cases h
  · rename_i id off len tot
    simp only [Bool.and_eq_true, beq_iff_eq] at hl
    obtain ⟨rfl, hl⟩ := hl
    have hlt : id < H.length := by
      cases hh : H[id]? with
      | none => rw [hh] at hl; cases hl
      | some b0 => exact (List.getElem?_eq_some_iff.1 hh).1
    unfold appendD at h
    split at h
    · rename_i e sz by' z0 hti
      split at h
      · rename_i ei ys hei hut hys
        split at h
        · rename_i hcond
          simp only at h
          cases hb : boxAt H id tot with
          | none => rw [hb] at h; cases h
          | some b =>
            simp only [hb] at h
            split at h
            · rename_i hc
              split at h
              · rename_i hlim
                simp only [Option.some.injEq, Prod.mk.injEq] at h
                obtain ⟨rfl, rfl⟩ := h
                refine ⟨_, hlt, rfl, fun k' H' he hs => ?_⟩
                have hb' : boxAt H' id tot = some b := by
                  unfold boxAt at *
                  rw [he]
                  exact hb
                unfold appendD
                simp only [hti, hei, hut, elemsOf_sim hs, hys, eszIs_sim hs]
                rw [if_pos hcond]
                simp only [hb']
                rw [if_pos hc, if_pos hlim]
              · cases h
            · cases h
        · cases h
      · cases h
    · cases h
  · cases hl

theorem eff_set {ids : List Nat} {nb : Option Box} {k k' : Nat} {H : Heap} {b : Box} (hk : nb.isSome = true → k' < H.length ∧ k' ≠ k) (hid : k ∉ ids) : eff ids nb k' (H.set k b) = (eff ids nb k' H).set k b := by
  apply List.ext_getElem?
  intro i
  rw [eff_get (H := H.set k b) (fun h => by rw [List.length_set]; exact (hk h).1), List.getElem?_set, List.getElem?_set, eff_length (fun h => (hk h).1), eff_get (fun h => (hk h).1)]
  by_cases hki : k = i
  · subst hki
    simp only [if_true]
    cases nb with
    | none =>
      simp only
      split
      · simp [bumpB, hid]
      · rfl
    | some b2 =>
      have : ¬ k = k' := fun e => (hk rfl).2 e.symm
      simp only [this, if_false]
      split
      · simp [bumpB, hid]
      · rfl
  · simp only [hki, if_false]
    cases nb <;> rfl

theorem eff_at {ids : List Nat} {nb : Option Box} {k k' : Nat} {H : Heap} (hk : nb.isSome = true → k' < H.length ∧ k' ≠ k) (hid : k ∉ ids) : (eff ids nb k' H)[k]? = H[k]? := by
  rw [eff_get (fun h => (hk h).1)]
  cases nb with
  | none =>
    simp only
    cases H[k]? with
    | none => rfl
    | some b => simp [bumpB, hid]
  | some b2 =>
    have : ¬ k = k' := fun e => (hk rfl).2 e.symm
    simp only [this, if_false]
    cases H[k]? with
    | none => rfl
    | some b => simp [bumpB, hid]

/-- What such a store, or append, does. -/
theorem actD_late {k i : Nat} {t : Nat ⊕ Nat} {o : Oper} {s : List V} {H H1 : Heap} {v : V} (ht : tgtOf E ops o = some t) (hin : (i, t) ∈ lt) (hl : lateD E ms lt s0 base i s H o = true) (h : actD call E ops k o ⟨s, H⟩ = some (v, H1)) :
    ∃ b n, tgtNo base s0 t = some n ∧ n ∈ refsO E s o ∧ n < H.length ∧ H1 = H.set n b ∧ ∀ k' H', H'[n]? = H[n]? → SimAt (refsO E s o) H H' → actD call E ops k' o ⟨s, H'⟩ = some (v, H'.set n b) := by
  obtain ⟨_, hg, ⟨d, hw⟩⟩ := tgtOf_w ht
  unfold lateD at hl
  rw [List.all_eq_true] at hl
  have hl := hl _ hin
  cases hn : tgtNo base s0 t with
  | none => simp only [hn] at hl; cases hl
  | some n =>
    simp only [hn, if_true] at hl
    unfold addrOf at hl
    simp only [hw] at hl
    have haddr : n ∈ refsO E s o := by
      unfold refsO
      rw [List.mem_flatMap]
      refine ⟨.tmp d, by simpa using writesAt_mem hw, ?_⟩
      unfold lateAt at hl
      split at hl
      · rename_i he
        simp only [Bool.and_eq_true, beq_iff_eq] at hl
        rw [he, ← hl.1]
        simp [refsV, ref1]
      · rename_i he
        simp only [Bool.and_eq_true, beq_iff_eq] at hl
        rw [he, ← hl.1]
        simp [refsV, ref1]
      · cases hl
    unfold actD at h ⊢
    simp only [hg] at h ⊢
    rcases writesAt_op hw with ⟨t', x, hop⟩ | ⟨c, x, hop, hc1, hc2⟩
    · unfold opD at h ⊢
      simp only [hop] at h ⊢
      cases hst : storeD E H t' (ev E s (.tmp d)) (ev E s x) with
      | none => rw [hst] at h; cases h
      | some H2 =>
        rw [hst] at h
        simp only [Option.map_some, Option.some.injEq, Prod.mk.injEq] at h
        obtain ⟨rfl, rfl⟩ := h
        obtain ⟨b, h1, h2, h3⟩ := store_late hl hst
        exact ⟨b, n, rfl, haddr, h1, h2, fun k' H' he _ => by rw [h3 H' he]; rfl⟩
    · have hargs : evs E s c.args = [ev E s (.tmp d), ev E s x] := by unfold evs; rw [hc2]; rfl
      unfold opD at h ⊢
      simp only [hop, hc1, hargs] at h ⊢
      unfold builtinD at h ⊢
      split at h
      · rename_i h1 _; cases h1
      · rename_i a y t' u' hb he1 he2
        simp only [List.cons.injEq, and_true] at he1
        obtain ⟨rfl, rfl⟩ := he1
        obtain ⟨b, h1, h2, h3⟩ := append_late hl h
        refine ⟨b, n, rfl, haddr, h1, h2, fun k' H' he hs => h3 k' H' he (fun id hid => hs id ?_)⟩
        unfold refsO
        rw [List.mem_flatMap]
        have : x ∈ c.args := by
          have : x ∈ c.args.toList := by rw [hc2]; simp
          simpa using this
        exact ⟨x, by simp [hop, Op.operands, Call.operands, this], hid⟩
      · rename_i h1 _ _; cases h1
      · rename_i h1; cases h1
      · rename_i h1; cases h1
      · cases h

theorem late_refs {i x n : Nat} {t : Nat ⊕ Nat} {o : Oper} {s : List V} {H : Heap} (hin : (x, t) ∈ lt) (hne : x ≠ i) (hn : needs E o = true) (hbit : (ms.getD i 0).testBit x = false) (hbit' : (ms.getD x 0).testBit i = false) (ht : tgtNo base s0 t = some n)
    (hl : lateD E ms lt s0 base i s H o = true) : n ∉ refsO E s o := by
  unfold lateD at hl
  rw [List.all_eq_true] at hl
  have hl := hl _ hin
  simp only [ht, if_neg hne, hn, linked, hbit, hbit', Bool.or_self, Bool.not_true, Bool.false_or, Bool.not_eq_true'] at hl
  simpa using hl

theorem actD_s {k : Nat} {o : Oper} {s : List V} {H H1 : Heap} {v : V} (hc : clsOf E o = .s) (h : actD call E ops k o ⟨s, H⟩ = some (v, H1)) : H1 = H ∧ ∀ H' k', actD call E ops k' o ⟨s, H'⟩ = some (v, H') := by
  unfold actD at *
  cases hg : o.guard with
  | none => simp only [hg] at h ⊢; exact opD_s hc h
  | some jw =>
    obtain ⟨j, want⟩ := jw
    simp only [hg] at h ⊢
    cases hd : (ops[j]?).bind (·.dst) with
    | none => simp [hd] at h
    | some d =>
      simp only [hd] at h ⊢
      cases hgd : guardD (s.getD d .und) want with
      | none => rw [hgd] at h; cases h
      | some r =>
        rw [hgd] at h
        cases r with
        | true => simp only at h ⊢; exact opD_s hc h
        | false =>
          simp only [Option.some.injEq, Prod.mk.injEq] at h ⊢
          exact ⟨h.2.symm, fun H' k' => ⟨h.1, trivial⟩⟩

theorem actD_eff (hpure : PureOK E call) {k : Nat} {o : Oper} {s : List V} {H H1 : Heap} {v : V} (hc : clsOf E o ≠ .w) (hcc : clsOf E o ≠ .c) (h : actD call E ops k o ⟨s, H⟩ = some (v, H1)) :
    ∃ ids nb, (∀ i ∈ ids, i ∈ refsO E s o) ∧ (nb.isSome = true → clsOf E o = .a) ∧ H1 = eff ids nb k H ∧
      ∀ H' k', (clsOf E o = .a → k' = k) → SimAt (refsO E s o) H H' → actD call E ops k' o ⟨s, H'⟩ = some (v, eff ids nb k' H') := by
  unfold actD at *
  cases hg : o.guard with
  | none => simp only [hg] at h ⊢; exact opD_eff hpure hc hcc h
  | some jw =>
    obtain ⟨j, want⟩ := jw
    simp only [hg] at h ⊢
    cases hd : (ops[j]?).bind (·.dst) with
    | none => simp [hd] at h
    | some d =>
      simp only [hd] at h ⊢
      cases hgd : guardD (s.getD d .und) want with
      | none => rw [hgd] at h; cases h
      | some r =>
        rw [hgd] at h
        cases r with
        | true => simp only at h ⊢; exact opD_eff hpure hc hcc h
        | false =>
          simp only [Option.some.injEq, Prod.mk.injEq] at h ⊢
          exact ⟨[], none, by simp, by simp, h.2.symm, fun H' k' _ _ => ⟨h.1, rfl⟩⟩

theorem actD_free (hfree : FreeOK E call) {k : Nat} {o : Oper} {s : List V} {H H1 : Heap} {v : V} (hc : clsOf E o = .c) (h : actD call E ops k o ⟨s, H⟩ = some (v, H1)) :
    ∃ ids nbs, (∀ i ∈ ids, i ∈ refsO E s o) ∧ H1 = bump H ids ++ nbs ∧ ∀ H' k', H'.length = H.length → SimAt (refsO E s o) H H' → actD call E ops k' o ⟨s, H'⟩ = some (v, bump H' ids ++ nbs) := by
  unfold actD at *
  cases hg : o.guard with
  | none => simp only [hg] at h ⊢; exact opD_free hfree hc h
  | some jw =>
    obtain ⟨j, want⟩ := jw
    simp only [hg] at h ⊢
    cases hd : (ops[j]?).bind (·.dst) with
    | none => simp [hd] at h
    | some d =>
      simp only [hd] at h ⊢
      cases hgd : guardD (s.getD d .und) want with
      | none => rw [hgd] at h; cases h
      | some r =>
        rw [hgd] at h
        cases r with
        | true => simp only at h ⊢; exact opD_free hfree hc h
        | false =>
          simp only [Option.some.injEq, Prod.mk.injEq] at h ⊢
          exact ⟨[], [], by simp, by rw [List.append_nil]; exact h.2.symm, fun H' k' _ _ => ⟨h.1, by rw [List.append_nil]; rfl⟩⟩

theorem bump_append {ids : List Nat} {H : Heap} (ys : List Box) (h : ∀ i ∈ ids, i < H.length) : bump (H ++ ys) ids = bump H ids ++ ys := by
  apply List.ext_getElem?
  intro i
  rw [bump_get, List.getElem?_append, List.getElem?_append, bump_length, bump_get]
  by_cases hi : i < H.length
  · rw [if_pos hi, if_pos hi]
  · have : i ∉ ids := fun hm => hi (h i hm)
    rw [if_neg hi, if_neg hi]
    cases ys[i - H.length]? with
    | none => rfl
    | some b => simp [this]

theorem eff_append {ids : List Nat} {nb : Option Box} {k : Nat} {H : Heap} (ys : List Box) (h : ∀ i ∈ ids, i < H.length) (hk : nb.isSome = true → k < H.length) : eff ids nb k (H ++ ys) = eff ids nb k H ++ ys := by
  cases nb with
  | none => exact bump_append ys h
  | some b =>
    have hk := hk rfl
    simp only [eff, place, bump_append ys h, List.length_append, bump_length]
    rw [if_pos (by omega), if_pos hk, List.set_append_left _ _ (by rw [bump_length]; exact hk)]

theorem sim_append {R : List Nat} {H H' : Heap} (ys : List Box) (h : SimAt R H H') (hR : ∀ i ∈ R, i < H'.length) : SimAt R H (H' ++ ys) := by
  intro i hi
  rw [List.getElem?_append_left (hR i hi)]
  exact h i hi

theorem sim_bump (R ids : List Nat) (H : Heap) : SimAt R H (bump H ids) := by
  have := eff_sim (R := R) (ids := ids) (nb := none) (k := 0) (H := H) (fun h => by cases h)
  exact this

theorem sim_set {R : List Nat} {H : Heap} {n : Nat} {b : Box} (h : n ∉ R) : SimAt R H (H.set n b) := by
  intro i hi
  rw [List.getElem?_set_ne (fun e => h (by rw [e]; exact hi))]

theorem SimAt.trans {R : List Nat} {H H' H2 : Heap} (h : SimAt R H H') (k : SimAt R H' H2) : SimAt R H H2 := fun i hi => (h i hi).trans (k i hi)

theorem setSlot_comm {s : List V} {d e : Option Tmp} {v u : V} (h : ∀ x, d = some x → e ≠ some x) : setSlot (setSlot s d v) e u = setSlot (setSlot s e u) d v := by
  cases d with
  | none => rfl
  | some d =>
    cases e with
    | none => rfl
    | some e =>
      have : d ≠ e := fun hh => h d rfl (by rw [hh])
      simp only [setSlot]
      exact List.set_comm v u this

/-- **Two operations change places.** -/
theorem stepR_swap (hcalls : CallsOK E call) (hm : ∀ i o, ops[i]? = some o → clsOf E o = .a → i < m) {x y : Nat} {ox oy : Oper} (hx : ops[x]? = some ox) (hy : ops[y]? = some oy) (hxy : x ≠ y)
    (hpass : (mayPass E ops ox oy || (latePass E ops lt x ox oy || latePass E ops lt y oy ox)) = true) (hlt : ∀ x t, (x, t) ∈ lt → ∃ ox, ops[x]? = some ox ∧ tgtOf E ops ox = some t) (hbit : (ms.getD y 0).testBit x = false) (hbit' : (ms.getD x 0).testBit y = false) {st st1 st2 : St}
    (h1 : stepR call E ops ms lt s0 base m x st = some st1) (h2 : stepR call E ops ms lt s0 base m y st1 = some st2) :
    ∃ st1', stepR call E ops ms lt s0 base m y st = some st1' ∧ stepR call E ops ms lt s0 base m x st1' = some st2 := by
  have hpure := hcalls.pure
  have hfree := hcalls.free
  have hap : ox.apart ops oy = true ∨ oy.apart ops ox = true := by
    simp only [Bool.or_eq_true, mayPass, latePass, Bool.and_eq_true] at hpass
    rcases hpass with h | h | h
    · exact .inl h.2
    · exact .inl h.1
    · exact .inr h.1
  have hsp : (∀ d, ox.dst = some d → d ∉ oy.looksAt ops) ∧ (∀ d, ox.dst = some d → oy.dst ≠ some d) ∧ (∀ d, oy.dst = some d → d ∉ ox.looksAt ops) := by
    rcases hap with h | h
    · exact Oper.apart_spec h
    · obtain ⟨b1, b2, b3⟩ := Oper.apart_spec h
      exact ⟨b3, fun d h1 h2 => b2 d h2 h1, b1⟩
  obtain ⟨a1, a2, a3⟩ := hsp
  obtain ⟨s1, ⟨l1, c1⟩, d1, vx, Hx, e1, rfl⟩ := (stepR_iff hx).1 h1
  obtain ⟨s2, ⟨l2, c2⟩, d2, vy, Hy, e2, rfl⟩ := (stepR_iff hy).1 h2
  obtain ⟨s, H⟩ := st
  simp only at *
  -- the slots that each looks at are the same in both orders
  rw [actD_set a1] at e2
  rw [lateD_set a1] at l2
  have s2' : seesOK E ops ms base m y s oy := by unfold seesOK at *; rw [refsO_set a1] at s2; exact s2
  have s1' : seesOK E ops ms base m x (setSlot s oy.dst vy) ox := by unfold seesOK at *; rw [refsO_set a3]; exact s1
  -- places that were kept
  have keptx : clsOf E ox = .a → base + x < H.length := fun hc => by
    obtain ⟨b, hb, _⟩ := d1 hc
    exact (List.getElem?_eq_some_iff.1 hb).1
  have nox : clsOf E ox = .a → base + x ∉ refsO E s oy := fun hc hin => by
    rcases s2' _ hin with h | ⟨h, _⟩ | ⟨_, h⟩
    · omega
    · have := hm x ox hx hc; omega
    · rw [show base + x - base = x by omega, hbit] at h; cases h
  have noy : clsOf E oy = .a → base + y ∉ refsO E s ox := fun hc hin => by
    rcases s1 _ hin with h | ⟨h, _⟩ | ⟨_, h⟩
    · omega
    · have := hm y oy hy hc; omega
    · rw [show base + y - base = y by omega, hbit'] at h; cases h
  -- what is not ordered with a call that may leave boxes does not see them
  have seex : clsOf E oy = .c → ∀ id ∈ refsO E s ox, id < base + m := fun hc id hid => by
    rcases s1 id hid with h | ⟨_, h⟩ | ⟨h, _⟩
    · omega
    · exfalso
      unfold freeAt at h
      rw [List.all_eq_true] at h
      have := h y (by simpa using (Array.getElem?_eq_some_iff.1 hy).1)
      simp only [hy, hc, linked, hbit, hbit', decide_true, Bool.not_true, Bool.or_self, Bool.or_false, beq_iff_eq] at this
      exact hxy this.symm
    · exact h
  have seey : clsOf E ox = .c → ∀ id ∈ refsO E s oy, id < base + m := fun hc id hid => by
    rcases s2' id hid with h | ⟨_, h⟩ | ⟨h, _⟩
    · omega
    · exfalso
      unfold freeAt at h
      rw [List.all_eq_true] at h
      have := h x (by simpa using (Array.getElem?_eq_some_iff.1 hx).1)
      simp only [hx, hc, linked, hbit, hbit', decide_true, Bool.not_true, Bool.or_self, Bool.or_false, beq_iff_eq] at this
      exact hxy this
    · exact h
  have fin : ∀ (Hy' : Heap), seesOK E ops ms base m y s oy → (lateD E ms lt s0 base y s H oy = true ∧ (clsOf E oy = .c → base + m ≤ H.length)) → (clsOf E oy = .a → ∃ b, H[base + y]? = some b ∧ b.live = false) → actD call E ops (kOf E oy base y H) oy ⟨s, H⟩ = some (vy, Hy') →
      (lateD E ms lt s0 base x s Hy' ox = true ∧ (clsOf E ox = .c → base + m ≤ Hy'.length)) → (clsOf E ox = .a → ∃ b, Hy'[base + x]? = some b ∧ b.live = false) → actD call E ops (kOf E ox base x Hy') ox ⟨s, Hy'⟩ = some (vx, Hy) →
      ∃ st1', stepR call E ops ms lt s0 base m y ⟨s, H⟩ = some st1' ∧ stepR call E ops ms lt s0 base m x st1' = some ⟨setSlot (setSlot s ox.dst vx) oy.dst vy, Hy⟩ := by
    intro Hy' g1 l3 g2 g3 l4 g4 g5
    refine ⟨⟨setSlot s oy.dst vy, Hy'⟩, (stepR_iff hy).2 ⟨g1, l3, g2, vy, Hy', g3, rfl⟩, (stepR_iff hx).2 ⟨s1', ⟨(by rw [lateD_set a3]; exact l4.1), l4.2⟩, g4, vx, Hy, ?_, ?_⟩⟩
    · rw [actD_set a3]; exact g5
    · rw [setSlot_comm a2]
  have notin : ∀ (z : Nat) (oz : Oper), ops[z]? = some oz → clsOf E oz ≠ .w → ∀ t, (z, t) ∉ lt := by
    intro z oz hz hc t hin
    obtain ⟨o', ho', ht'⟩ := hlt z t hin
    rw [hz] at ho'
    cases ho'
    exact hc (tgtOf_w ht').1
  cases hlx : latePass E ops lt x ox oy with
  | true =>
    unfold latePass at hlx
    simp only [Bool.and_eq_true, List.any_eq_true, beq_iff_eq] at hlx
    obtain ⟨_, hny, ⟨x', t⟩, hin, hx'⟩ := hlx
    simp only at hx'
    subst hx'
    obtain ⟨ox', hox', htx⟩ := hlt _ t hin
    rw [hx] at hox'
    cases hox'
    have hnw := needs_w hny
    obtain ⟨b, n, hn, hnin, hnlt, rfl, f3⟩ := actD_late htx hin l1 e1
    have hjy : n ∉ refsO E s oy := late_refs hin hxy hny hbit hbit' hn l2
    have late1 : ∀ Hy' : Heap, Hy'[n]? = H[n]? → lateD E ms lt s0 base x' s Hy' ox = true := fun Hy' hat => by
      refine lateD_same (fun p hp k he hk => ?_) l1
      obtain ⟨o', ho', ht'⟩ := hlt p.1 p.2 hp
      rw [he, hx] at ho'
      cases ho'
      rw [htx] at ht'
      cases ht'
      rw [hn] at hk
      cases hk
      exact hat
    have ncx : clsOf E ox = .c → False := fun hc => by rw [(tgtOf_w htx).1] at hc; cases hc
    by_cases hyc : clsOf E oy = .c
    · obtain ⟨idy, nbs, y1, rfl, y4⟩ := actD_free hfree hyc e2
      have hl : base + m ≤ H.length := by have := c2 hyc; rw [List.length_set] at this; exact this
      have hjid : n ∉ idy := fun h => hjy (y1 _ h)
      have g3 := y4 H (kOf E oy base y H) (by rw [List.length_set]) (sim_set hjy).symm
      have hat : (bump H idy ++ nbs)[n]? = H[n]? := by
        rw [List.getElem?_append_left (by rw [bump_length]; exact hnlt), bump_get]
        cases H[n]? with
        | none => rfl
        | some b => simp [hjid]
      refine fin _ s2' ⟨lateD_heap (notin y oy hy hnw) l2, fun _ => hl⟩ (fun hc => by rw [hyc] at hc; cases hc) g3 ⟨late1 _ hat, fun hc => (ncx hc).elim⟩ (fun hc => by rw [(tgtOf_w htx).1] at hc; cases hc) ?_
      rw [f3 _ _ hat (sim_append nbs (sim_bump _ _ _) (fun i hi => by rw [bump_length]; exact Nat.lt_of_lt_of_le (seex hyc i hi) hl))]
      congr 2
      rw [List.set_append_left _ _ (by rw [bump_length]; exact hnlt)]
      congr 1
      have := eff_set (ids := idy) (nb := none) (k' := 0) (H := H) (b := b) (k := n) (fun h => by cases h) hjid
      exact this.symm
    have hne : clsOf E oy = .a → base + y ≠ n := fun hc e => noy hc (by rw [e]; exact hnin)
    obtain ⟨idy, nby, y1, y2, rfl, y4⟩ := actD_eff hpure hnw hyc e2
    have hkH : kOf E oy base y (H.set n b) = kOf E oy base y H := by unfold kOf; rw [List.length_set]
    have deady : clsOf E oy = .a → ∃ b, H[base + y]? = some b ∧ b.live = false := fun hc => by
      obtain ⟨b', hb', hd⟩ := d2 hc
      rw [List.getElem?_set_ne (fun e => hne hc e.symm)] at hb'
      exact ⟨b', hb', hd⟩
    have hyl : nby.isSome = true → kOf E oy base y H < H.length ∧ kOf E oy base y H ≠ n := fun h => by
      have hc := y2 h
      obtain ⟨b', hb', _⟩ := deady hc
      have := (List.getElem?_eq_some_iff.1 hb').1
      unfold kOf
      rw [if_pos hc]
      exact ⟨this, hne hc⟩
    have hjid : n ∉ idy := fun h => hjy (y1 _ h)
    have g3 := y4 H (kOf E oy base y H) (fun hc => by rw [hkH]) (fun i hi => by rw [List.getElem?_set_ne (fun e => hjy (by rw [e]; exact hi))])
    have hat := eff_at (H := H) hyl hjid
    refine fin _ s2' ⟨lateD_heap (notin y oy hy hnw) l2, fun hc => absurd hc hyc⟩ deady g3 ⟨late1 _ hat, fun hc => (ncx hc).elim⟩ (fun hc => by rw [(tgtOf_w htx).1] at hc; cases hc) ?_
    rw [f3 _ _ hat (eff_sim (fun h => ⟨(hyl h).1, by
        have hk : kOf E oy base y H = base + y := by simp [kOf, y2 h]
        rw [hk]
        exact noy (y2 h)⟩)), hkH, eff_set hyl hjid]
  | false =>
  cases hly : latePass E ops lt y oy ox with
  | true =>
    unfold latePass at hly
    simp only [Bool.and_eq_true, List.any_eq_true, beq_iff_eq] at hly
    obtain ⟨_, hnx, ⟨y', t⟩, hin, hy'⟩ := hly
    simp only at hy'
    subst hy'
    obtain ⟨oy', hoy', hty⟩ := hlt _ t hin
    rw [hy] at hoy'
    cases hoy'
    have hnw := needs_w hnx
    obtain ⟨b, n, hn, hnin, hnlt, rfl, f3⟩ := actD_late hty hin l2 e2
    have hjx : n ∉ refsO E s ox := late_refs hin (Ne.symm hxy) hnx hbit' hbit hn l1
    have late2 : Hx[n]? = H[n]? → lateD E ms lt s0 base y' s H oy = true := fun hat => by
      refine lateD_same (fun p hp k he hk => ?_) l2
      obtain ⟨o', ho', ht'⟩ := hlt p.1 p.2 hp
      rw [he, hy] at ho'
      cases ho'
      rw [hty] at ht'
      cases ht'
      rw [hn] at hk
      cases hk
      exact hat.symm
    have ncy : clsOf E oy = .c → False := fun hc => by rw [(tgtOf_w hty).1] at hc; cases hc
    by_cases hxc : clsOf E ox = .c
    · obtain ⟨idx, nbs, x1, rfl, x4⟩ := actD_free hfree hxc e1
      have hl : base + m ≤ H.length := c1 hxc
      have hnl : n < H.length := Nat.lt_of_lt_of_le (seey hxc n hnin) hl
      have hjid : n ∉ idx := fun h => hjx (x1 _ h)
      have hat : (bump H idx ++ nbs)[n]? = H[n]? := by
        rw [List.getElem?_append_left (by rw [bump_length]; exact hnl), bump_get]
        cases H[n]? with
        | none => rfl
        | some b => simp [hjid]
      refine fin _ s2' ⟨late2 hat, fun hc => (ncy hc).elim⟩ (fun hc => by rw [(tgtOf_w hty).1] at hc; cases hc) (f3 _ H hat.symm (sim_append nbs (sim_bump _ _ _) (fun i hi => by rw [bump_length]; exact Nat.lt_of_lt_of_le (seey hxc i hi) hl)).symm)
        ⟨lateD_heap (notin x ox hx hnw) l1, fun _ => by rw [List.length_set]; exact hl⟩ (fun hc => by rw [hxc] at hc; cases hc) ?_
      rw [x4 _ _ (by rw [List.length_set]) (sim_set hjx)]
      congr 2
      rw [List.set_append_left _ _ (by rw [bump_length]; exact hnl)]
      congr 1
      have := eff_set (ids := idx) (nb := none) (k' := 0) (H := H) (b := b) (k := n) (fun h => by cases h) hjid
      exact this
    obtain ⟨idx, nbx, x1, x2, rfl, x4⟩ := actD_eff hpure hnw hxc e1
    have hne : clsOf E ox = .a → base + x ≠ n := fun hc e => nox hc (by rw [e]; exact hnin)
    have hxl : nbx.isSome = true → kOf E ox base x H < H.length ∧ kOf E ox base x H ≠ n := fun h => by
      have hc := x2 h
      have := keptx hc
      unfold kOf
      rw [if_pos hc]
      exact ⟨this, hne hc⟩
    have hjid : n ∉ idx := fun h => hjx (x1 _ h)
    have hat := eff_at (H := H) hxl hjid
    have hkS : kOf E ox base x (H.set n b) = kOf E ox base x H := by unfold kOf; rw [List.length_set]
    have hsy : SimAt (refsO E s oy) (eff idx nbx (kOf E ox base x H) H) H := (eff_sim (fun h => ⟨(hxl h).1, by
      have hk : kOf E ox base x H = base + x := by simp [kOf, x2 h]
      rw [hk]
      exact nox (x2 h)⟩)).symm
    refine fin _ s2' ⟨late2 hat, fun hc => (ncy hc).elim⟩ (fun hc => by rw [(tgtOf_w hty).1] at hc; cases hc) (f3 _ H hat.symm hsy) ⟨lateD_heap (notin x ox hx hnw) l1, fun hc => absurd hc hxc⟩ (fun hc => ?_) ?_
    · obtain ⟨b', hb', hd⟩ := d1 hc
      exact ⟨b', by rw [List.getElem?_set_ne (fun e => hne hc e.symm)]; exact hb', hd⟩
    · rw [x4 _ _ (fun hc => by rw [hkS]) (fun i hi => by rw [List.getElem?_set_ne (fun e => hjx (by rw [e]; exact hi))]), hkS, eff_set hxl hjid]
  | false =>
  rw [hlx, hly, Bool.or_false, Bool.or_false] at hpass
  unfold mayPass at hpass
  simp only [Bool.and_eq_true] at hpass
  have hcomp := hpass.1
  by_cases hcx : clsOf E ox = .s
  · obtain ⟨f1, f2⟩ := actD_s hcx e1
    subst f1
    exact fin Hy s2' ⟨l2, c2⟩ d2 e2 ⟨lateD_heap (notin x ox hx (by rw [hcx]; intro h; cases h)) l1, fun hc => by rw [hcx] at hc; cases hc⟩ (fun hc => by rw [hcx] at hc; cases hc) (f2 _ _)
  by_cases hcy : clsOf E oy = .s
  · obtain ⟨f1, f2⟩ := actD_s hcy e2
    subst f1
    exact fin H s2' ⟨lateD_heap (notin y oy hy (by rw [hcy]; intro h; cases h)) l2, fun hc => by rw [hcy] at hc; cases hc⟩ (fun hc => by rw [hcy] at hc; cases hc) (f2 _ _) ⟨l1, c1⟩ d1 e1
  have hwx : clsOf E ox ≠ .w := fun hw => by rw [hw] at hcomp; cases hh : clsOf E oy <;> simp_all [compat]
  have hwy : clsOf E oy ≠ .w := fun hw => by rw [hw] at hcomp; cases hh : clsOf E ox <;> simp_all [compat]
  by_cases hxc : clsOf E ox = .c
  · have hyc : clsOf E oy ≠ .c := fun hc => by rw [hxc, hc] at hcomp; cases hcomp
    obtain ⟨idx, nbs, x1, rfl, x4⟩ := actD_free hfree hxc e1
    obtain ⟨idy, nby, y1, y2, rfl, y4⟩ := actD_eff hpure hwy hyc e2
    have hl : base + m ≤ H.length := c1 hxc
    have hry : ∀ i ∈ refsO E s oy, i < H.length := fun i hi => Nat.lt_of_lt_of_le (seey hxc i hi) hl
    have kyl : nby.isSome = true → base + y < H.length := fun h => by have := hm y oy hy (y2 h); omega
    have g3 := y4 H (kOf E oy base y H) (fun hc => by simp [kOf, hc]) (sim_append nbs (sim_bump _ _ _) (fun i hi => by rw [bump_length]; exact hry i hi)).symm
    have hke : ∀ H' : Heap, eff idy nby (kOf E oy base y H') = eff idy nby (base + y) := fun H' => by
      cases hnb : nby with
      | none => rfl
      | some b => simp [kOf, y2 (by rw [hnb]; rfl)]
    rw [hke] at g3
    have kyn : nby.isSome = true → base + y ∉ refsO E s ox := fun h => noy (y2 h)
    have hlen : (eff idy nby (base + y) H).length = H.length := eff_length kyl
    have dy : clsOf E oy = .a → ∃ b, H[base + y]? = some b ∧ b.live = false := fun hc => by
      obtain ⟨b, hb, hd⟩ := d2 hc
      have hlt : base + y < H.length := by have := hm y oy hy hc; omega
      rw [List.getElem?_append_left (by rw [bump_length]; exact hlt), bump_get] at hb
      cases hh : H[base + y]? with
      | none => simp [hh] at hb
      | some b0 =>
        simp only [hh, Option.map_some, Option.some.injEq] at hb
        refine ⟨b0, rfl, ?_⟩
        subst hb
        split at hd <;> exact hd
    refine fin _ s2' ⟨lateD_heap (notin y oy hy hwy) l2, fun hc => absurd hc hyc⟩ dy g3 ⟨lateD_heap (notin x ox hx hwx) l1, fun _ => by rw [hlen]; exact hl⟩ (fun hc => by rw [hxc] at hc; cases hc) ?_
    rw [x4 _ _ hlen (eff_sim (fun h => ⟨kyl h, kyn h⟩)), hke]
    congr 2
    rw [eff_append nbs (fun i hi => by rw [bump_length]; exact hry i (y1 i hi)) (fun h => by rw [bump_length]; exact kyl h)]
    congr 1
    have := eff_comm (ids1 := idx) (ids2 := idy) (nb1 := none) (nb2 := nby) (k1 := 0) (k2 := base + y) (H := H) (fun h => by cases h) (fun h => ⟨kyl h, fun hin => kyn h (x1 _ hin)⟩) (fun h => by cases h)
    exact this
  by_cases hyc : clsOf E oy = .c
  · obtain ⟨idx, nbx, x1, x2, rfl, x4⟩ := actD_eff hpure hwx hxc e1
    obtain ⟨idy, nbs, y1, rfl, y4⟩ := actD_free hfree hyc e2
    have kxl : nbx.isSome = true → base + x < H.length := fun h => keptx (x2 h)
    have hke : ∀ H' : Heap, eff idx nbx (kOf E ox base x H') = eff idx nbx (base + x) := fun H' => by
      cases hnb : nbx with
      | none => rfl
      | some b => simp [kOf, x2 (by rw [hnb]; rfl)]
    rw [hke] at c2 y4
    have hlen : (eff idx nbx (base + x) H).length = H.length := eff_length kxl
    have hl : base + m ≤ H.length := by have := c2 hyc; rw [hlen] at this; exact this
    have hrx : ∀ i ∈ refsO E s ox, i < H.length := fun i hi => Nat.lt_of_lt_of_le (seex hyc i hi) hl
    have g3 := y4 H (kOf E oy base y H) hlen.symm (eff_sim (fun h => ⟨kxl h, nox (x2 h)⟩)).symm
    refine fin _ s2' ⟨lateD_heap (notin y oy hy hwy) l2, fun _ => hl⟩ (fun hc => by rw [hyc] at hc; cases hc) g3 ⟨lateD_heap (notin x ox hx hwx) l1, fun hc => absurd hc hxc⟩ (fun hc => ?_) ?_
    · obtain ⟨b, hb, hd⟩ := d1 hc
      have hlt := keptx hc
      rw [List.getElem?_append_left (by rw [bump_length]; exact hlt), bump_get, hb]
      refine ⟨_, rfl, ?_⟩
      simp only
      split <;> exact hd
    · rw [x4 _ (kOf E ox base x (bump H idy ++ nbs)) (fun hc => by simp [kOf, hc]) (sim_append nbs (sim_bump _ _ _) (fun i hi => by rw [bump_length]; exact hrx i hi)), hke, hke]
      congr 2
      rw [eff_append nbs (fun i hi => by rw [bump_length]; exact hrx i (x1 i hi)) (fun h => by rw [bump_length]; exact kxl h)]
      congr 1
      have := eff_comm (ids1 := idx) (ids2 := idy) (nb1 := nbx) (nb2 := none) (k1 := base + x) (k2 := 0) (H := H) (fun h => ⟨kxl h, fun hin => nox (x2 h) (y1 _ hin)⟩) (fun h => by cases h) (fun _ h => by cases h)
      exact this
  obtain ⟨idx, nbx, x1, x2, rfl, x4⟩ := actD_eff hpure hwx hxc e1
  obtain ⟨idy, nby, y1, y2, rfl, y4⟩ := actD_eff hpure hwy hyc e2
  have kx : nbx.isSome = true → kOf E ox base x H = base + x := fun h => by simp [kOf, x2 h]
  have hxlt : nbx.isSome = true → kOf E ox base x H < H.length := fun h => by rw [kx h]; exact keptx (x2 h)
  have hlen := eff_length (ids := idx) hxlt
  have ky : nby.isSome = true → ∀ H', kOf E oy base y H' = base + y := fun h H' => by simp [kOf, y2 h]
  -- y first
  have simx : SimAt (refsO E s oy) (eff idx nbx (kOf E ox base x H) H) H := (eff_sim (fun h => ⟨hxlt h, by rw [kx h]; exact nox (x2 h)⟩)).symm
  have deady : clsOf E oy = .a → ∃ b, H[base + y]? = some b ∧ b.live = false := fun hc =>
    (eff_dead (fun h => ⟨hxlt h, by rw [kx h]; omega⟩)).1 (d2 hc)
  have hylt : clsOf E oy = .a → base + y < H.length := fun hc => by
    obtain ⟨b, hb, _⟩ := deady hc
    exact (List.getElem?_eq_some_iff.1 hb).1
  have g3 := y4 H (kOf E oy base y H) (fun hc => by simp [kOf, hc]) simx
  have hylt' : nby.isSome = true → kOf E oy base y H < H.length := fun h => by rw [ky h]; exact hylt (y2 h)
  refine fin _ s2' ⟨lateD_heap (notin y oy hy hwy) l2, fun hc => absurd hc hyc⟩ deady g3 ⟨lateD_heap (notin x ox hx hwx) l1, fun hc => absurd hc hxc⟩ (fun hc => (eff_dead (fun h => ⟨hylt' h, by rw [ky h]; omega⟩)).2 (d1 hc)) ?_
  have simy : SimAt (refsO E s ox) H (eff idy nby (kOf E oy base y H) H) := eff_sim (fun h => ⟨hylt' h, by rw [ky h]; exact noy (y2 h)⟩)
  have g5 := x4 _ (kOf E ox base x (eff idy nby (kOf E oy base y H) H)) (fun hc => by simp [kOf, hc]) simy
  rw [g5]
  have hk1 : nbx.isSome = true → kOf E ox base x (eff idy nby (kOf E oy base y H) H) = base + x := fun h => by simp [kOf, x2 h]
  have hkx : eff idx nbx (kOf E ox base x (eff idy nby (kOf E oy base y H) H)) (eff idy nby (kOf E oy base y H) H) = eff idx nbx (kOf E ox base x H) (eff idy nby (kOf E oy base y H) H) := by
    cases nbx with
    | none => rfl
    | some b => rw [hk1 rfl, kx rfl]
  have hky : eff idy nby (kOf E oy base y (eff idx nbx (kOf E ox base x H) H)) (eff idx nbx (kOf E ox base x H) H) = eff idy nby (kOf E oy base y H) (eff idx nbx (kOf E ox base x H) H) := by
    cases nby with
    | none => rfl
    | some b => rw [ky rfl, ky rfl]
  rw [hkx, hky]
  congr 2
  exact eff_comm (fun h => ⟨hxlt h, by rw [kx h]; exact fun hin => nox (x2 h) (y1 _ hin)⟩) (fun h => ⟨hylt' h, by rw [ky h]; exact fun hin => noy (y2 h) (x1 _ hin)⟩) (fun h1 h2 => by rw [kx h1, ky h2]; omega)

end

end Go.Proofs.YtkepnndakhpgoaaGreatDoor.Le

/-
  An evaluator for the model's code over pure values: a region that draws its order runs as in its own order.
-/
namespace Go.Proofs.YtkepnndakhpgoaaGreatDoor.Le
set_option linter.unusedVariables false
open Go.RowKit (Below)

/-! ### masks -/

theorem foldl_bit (acc : List Nat) (j : Nat) : ∀ (es : List Edge) (m : Nat), (es.foldl (fun m e => if Region.binds .any e then m ||| (1 <<< e.on) ||| acc.getD e.on 0 else m) m).testBit j = true ↔
    m.testBit j = true ∨ ∃ e ∈ es, Region.binds .any e = true ∧ (j = e.on ∨ (acc.getD e.on 0).testBit j = true) := by
  intro es
  induction es with
  | nil => intro m; simp
  | cons e es ih =>
    intro m
    rw [List.foldl_cons, ih]
    by_cases hb : Region.binds .any e = true
    · simp only [hb, if_true, Nat.testBit_or, Bool.or_eq_true, Nat.one_shiftLeft, Nat.testBit_two_pow, decide_eq_true_eq, List.mem_cons, exists_eq_or_imp, true_and]
      constructor
      · rintro (((h | h) | h) | h)
        · exact .inl h
        · exact .inr (.inl (.inl h.symm))
        · exact .inr (.inl (.inr h))
        · exact .inr (.inr h)
      · rintro (h | (h | h) | h)
        · exact .inl (.inl (.inl h))
        · exact .inl (.inl (.inr h.symm))
        · exact .inl (.inr h)
        · exact .inr h
    · simp only [hb, Bool.false_eq_true, if_false, List.mem_cons, exists_eq_or_imp, false_and, false_or]

theorem maskOf_bit (acc : List Nat) (o : Oper) (j : Nat) : (maskOf acc o).testBit j = true ↔ ∃ e ∈ o.after, Region.binds .any e = true ∧ (j = e.on ∨ (acc.getD e.on 0).testBit j = true) := by
  unfold maskOf
  rw [foldl_bit]
  simp

theorem masksD_get : ∀ (os : List Oper) (acc : List Nat) (i : Nat), i < acc.length → (masksD acc os)[i]? = acc[i]? := by
  intro os
  induction os with
  | nil => intro acc i hi; rfl
  | cons o os ih =>
    intro acc i hi
    simp only [masksD]
    rw [ih _ i (by simp; omega), List.getElem?_append_left hi]

theorem masksD_at : ∀ (os : List Oper) (acc : List Nat) (i : Nat) (o : Oper), os[i]? = some o →
    ∃ acc', (masksD acc os)[acc.length + i]? = some (maskOf acc' o) ∧ acc'.length = acc.length + i ∧ ∀ j, j < acc'.length → (masksD acc os)[j]? = acc'[j]? := by
  intro os
  induction os with
  | nil => intro acc i o h; simp at h
  | cons p os ih =>
    intro acc i o h
    cases i with
    | zero =>
      simp at h
      subst h
      refine ⟨acc, ?_, rfl, fun j hj => ?_⟩
      · simp only [masksD]
        rw [masksD_get _ _ _ (by simp)]
        simp
      · simp only [masksD]
        rw [masksD_get _ _ _ (by simp; omega), List.getElem?_append_left hj]
    | succ i =>
      simp at h
      obtain ⟨acc', h1, h2, h3⟩ := ih (acc ++ [maskOf acc p]) i o h
      refine ⟨acc', ?_, by rw [h2]; simp; omega, h3⟩
      simp only [masksD]
      rw [← h1]
      congr 1
      simp
      omega

section
variable {E : Env} {ops : Array Oper}

/-- What the static look at a region says. -/
structure DrawFacts (E : Env) (ops : Array Oper) : Prop where
  low : ∀ (i : Nat) (o : Oper), ops[i]? = some o → ∀ e ∈ o.after, Region.binds .any e = true → e.on < i
  bit : ∀ (i : Nat) (o : Oper), ops[i]? = some o → ∀ j, ((masksD [] ops.toList).getD i 0).testBit j = true ↔ ∃ e ∈ o.after, Region.binds .any e = true ∧ (j = e.on ∨ ((masksD [] ops.toList).getD e.on 0).testBit j = true)
  lt : ∀ (i j : Nat), i < ops.size → ((masksD [] ops.toList).getD i 0).testBit j = true → j < i
  pass : ∀ (x y : Nat) (ox oy : Oper), ops[x]? = some ox → ops[y]? = some oy → x < y → ((masksD [] ops.toList).getD y 0).testBit x = true ∨ (mayPass E ops ox oy || (latePass E ops (lates E ops) x ox oy || latePass E ops (lates E ops) y oy ox)) = true

theorem drawOK_facts (h : drawOK E ops = true) : DrawFacts E ops := by
  unfold drawOK at h
  simp only [List.all_eq_true, List.mem_range] at h
  have hlow : ∀ (i : Nat) (o : Oper), ops[i]? = some o → ∀ e ∈ o.after, Region.binds .any e = true → e.on < i := by
    intro i o ho e he
    have := h i (Array.getElem?_eq_some_iff.1 ho).1
    simp only [ho, Bool.and_eq_true, Array.all_eq_true_iff_forall_mem, Bool.or_eq_true, Bool.not_eq_true', decide_eq_true_eq] at this
    intro hb
    rcases this.1 e he with hh | hh
    · rw [hb] at hh; cases hh
    · exact hh
  have hbit : ∀ (i : Nat) (o : Oper), ops[i]? = some o → ∀ j, ((masksD [] ops.toList).getD i 0).testBit j = true ↔ ∃ e ∈ o.after, Region.binds .any e = true ∧ (j = e.on ∨ ((masksD [] ops.toList).getD e.on 0).testBit j = true) := by
    intro i o ho j
    obtain ⟨acc', h1, h2, h3⟩ := masksD_at ops.toList [] i o (by simpa using ho)
    simp only [List.length_nil, Nat.zero_add] at h1 h2
    have hi : (masksD [] ops.toList).getD i 0 = maskOf acc' o := by simp [List.getD, h1]
    rw [hi, maskOf_bit]
    constructor
    · rintro ⟨e, he, hb, hj⟩
      refine ⟨e, he, hb, ?_⟩
      have := h3 e.on (by rw [h2]; exact hlow i o ho e he hb)
      rcases hj with hj | hj
      · exact .inl hj
      · right; simp only [List.getD] at hj ⊢; rw [this]; exact hj
    · rintro ⟨e, he, hb, hj⟩
      refine ⟨e, he, hb, ?_⟩
      have := h3 e.on (by rw [h2]; exact hlow i o ho e he hb)
      rcases hj with hj | hj
      · exact .inl hj
      · right; simp only [List.getD] at hj ⊢; rw [← this]; exact hj
  refine ⟨hlow, hbit, ?_, ?_⟩
  · intro i
    induction i using Nat.strongRecOn with
    | _ i ih =>
      intro j hi hj
      have ho : ops[i]? = some ops[i] := by simp [hi]
      obtain ⟨e, he, hb, hh⟩ := (hbit i _ ho j).1 hj
      have hlt := hlow i _ ho e he hb
      rcases hh with hh | hh
      · omega
      · have := ih e.on hlt j (by omega) hh
        omega
  · intro x y ox oy hx hy hxy
    have := h y (Array.getElem?_eq_some_iff.1 hy).1
    simp only [hy, Bool.and_eq_true, List.all_eq_true, List.mem_range, Bool.or_eq_true] at this
    have := this.2 x hxy
    simp only [hx] at this
    simpa only [Bool.or_eq_true] using this

end

/-! ### any order -/

section
variable {call : CallF} {E : Env} {ops : Array Oper} {ms : List Nat} {lt : List (Nat × (Nat ⊕ Nat))} {s0 : List V} {base m : Nat}

theorem stepsR_pull {i : Nat} {r : St} : ∀ (M1 M2 : List Nat) (st : St), (∀ y ∈ M1, ∀ st st1 st2, stepR call E ops ms lt s0 base m y st = some st1 → stepR call E ops ms lt s0 base m i st1 = some st2 →
      ∃ st1', stepR call E ops ms lt s0 base m i st = some st1' ∧ stepR call E ops ms lt s0 base m y st1' = some st2) →
    stepsR call E ops ms lt s0 base m (M1 ++ i :: M2) st = some r → ∃ st1, stepR call E ops ms lt s0 base m i st = some st1 ∧ stepsR call E ops ms lt s0 base m (M1 ++ M2) st1 = some r := by
  intro M1
  induction M1 with
  | nil =>
    intro M2 st _ h
    simp only [List.nil_append, stepsR] at h
    cases h1 : stepR call E ops ms lt s0 base m i st with
    | none => simp [h1] at h
    | some st1 => simp only [h1] at h; exact ⟨st1, rfl, h⟩
  | cons y M1 ih =>
    intro M2 st hsw h
    simp only [List.cons_append, stepsR] at h
    cases h1 : stepR call E ops ms lt s0 base m y st with
    | none => simp [h1] at h
    | some sa =>
      simp only [h1] at h
      obtain ⟨sb, h2, h3⟩ := ih M2 sa (fun z hz => hsw z (List.mem_cons_of_mem _ hz)) h
      obtain ⟨sc, h4, h5⟩ := hsw y (by simp) st sa sb h1 h2
      exact ⟨sc, h4, by simp only [List.cons_append, stepsR, h5]; exact h3⟩

theorem stepR_ok {B : Nat} {w0 : Start} {σ : Sg} {P : Program} {st st' : St} {a : Act} {w : World} (hE : EnvOK E) (hP : E.P = P) (hcall : CallOK P E B w0 call) {i : Nat} (h : Rel E B w0 σ st a w) (hs : stepR call E ops ms lt s0 base m i st = some st')
    {K : Act → World → Prop} {Q : Exit → Act → World → Prop} (hn : ∀ a' w' σ', Rel E B w0 σ' st' a' w' → Ext σ w σ' w' → K a' w') : wpOp P ops Q i K a w := by
  have hat : ∃ k, freeB st.H k = true ∧ stepAt call E ops k i st = some st' := by
    unfold stepR at hs
    cases ho : ops[i]? with
    | none =>
      simp only [ho] at hs
      exact ⟨st.H.length, freeB_end _, by unfold stepAt; simp only [ho]; exact hs⟩
    | some o =>
      simp only [ho] at hs
      split at hs
      · split at hs
        · split at hs
          · rename_i b hb
            split at hs
            · cases hs
            · rename_i hl
              exact ⟨base + i, by unfold freeB; simp only [hb]; simpa using hl, hs⟩
          · cases hs
        · exact ⟨st.H.length, freeB_end _, hs⟩
      · cases hs
  obtain ⟨k, hk, hat⟩ := hat
  exact stepAt_ok hE hP hcall hk h hat hn

theorem wpAny_ok {B : Nat} {w0 : Start} {P : Program} {r : St} (hE : EnvOK E) (hP : E.P = P) (hcall : CallOK P E B w0 call) (hpure : CallsOK E call) (hf : DrawFacts E ops) (hm : ∀ (i : Nat) (o : Oper), ops[i]? = some o → clsOf E o = .a → i < m)
    {Q : Exit → Act → World → Prop} : ∀ (fuel : Nat) (M : List Nat) (listed : Array Bool) (st : St) (σ : Sg) (a : Act) (w : World), M.length ≤ fuel → listed.size = ops.size →
    (∀ j, j ∈ M ↔ listed.getD j true = false) → M.Pairwise (· < ·) → (∀ k j, listed.getD k false = true → ((masksD [] ops.toList).getD k 0).testBit j = true → listed.getD j false = true) →
    stepsR call E ops (masksD [] ops.toList) (lates E ops) s0 base m M st = some r → Rel E B w0 σ st a w → (∀ a' w' σ', Rel E B w0 σ' r a' w' → Ext σ w σ' w' → Q .normal a' w') → wpAny P .any ops Q fuel listed a w := by
  intro fuel
  induction fuel with
  | zero =>
    intro M listed st σ a w hl hsz hM hsort hdown hs hr hn
    have hnil : M = [] := List.eq_nil_of_length_eq_zero (by omega)
    subst hnil
    simp only [stepsR, Option.some.injEq] at hs
    subst hs
    refine ⟨?_, hn a w σ hr (Ext.refl σ w)⟩
    cases hrd : Region.ready .any ops listed with
    | nil => rfl
    | cons i rest =>
      have hi : i ∈ Region.ready .any ops listed := by rw [hrd]; simp
      have := (hM i).2 (mem_ready.1 hi).1
      cases this
  | succ fuel ih =>
    intro M listed st σ a w hl hsz hM hsort hdown hs hr hn
    have hlist : ∀ j, j < ops.size → j ∉ M → listed.getD j false = true := by
      intro j hj hn
      have : ¬ listed.getD j true = false := fun h => hn ((hM j).2 h)
      have hjl : j < listed.size := by omega
      simp [hjl] at this ⊢
      exact this
    refine ⟨fun hready => ?_, fun i hi => ?_⟩
    · -- nothing is ready: nothing is left
      cases M with
      | nil =>
        simp only [stepsR, Option.some.injEq] at hs
        subst hs
        exact hn a w σ hr (Ext.refl σ w)
      | cons i rest =>
        exfalso
        have hun := (hM i).1 (by simp)
        have hilt : i < ops.size := by
          rcases Nat.lt_or_ge i listed.size with h | h
          · omega
          · simp [Array.getElem?_eq_none h] at hun
        have ho : ops[i]? = some ops[i] := by simp [hilt]
        have : i ∈ Region.ready .any ops listed := mem_ready.2 ⟨hun, _, ho, fun e he hb => by
          have hlt := hf.low i _ ho e he hb
          refine hlist e.on (by omega) (fun hin => ?_)
          rcases List.mem_cons.1 hin with h | h
          · omega
          · have := (List.pairwise_cons.1 hsort).1 _ h
            omega⟩
        rw [hready] at this
        cases this
    · obtain ⟨hun, oi, hoi, hall⟩ := mem_ready.1 hi
      have hin := (hM i).2 hun
      obtain ⟨M1, M2, rfl⟩ := List.append_of_mem hin
      have hilt : i < ops.size := (Array.getElem?_eq_some_iff.1 hoi).1
      have hM1 : ∀ y ∈ M1, y < i := fun y hy => (List.pairwise_append.1 hsort).2.2 y hy i (by simp)
      have hmask : ∀ j, ((masksD [] ops.toList).getD i 0).testBit j = true → listed.getD j false = true := by
        intro j hj
        obtain ⟨e, he, hb, hh⟩ := (hf.bit i oi hoi j).1 hj
        rcases hh with hh | hh
        · rw [hh]; exact hall e he hb
        · exact hdown e.on j (hall e he hb) hh
      have hunl : ∀ y, listed.getD y true = false → listed.getD y false = false := by
        intro y hy
        rcases Nat.lt_or_ge y listed.size with h | h
        · simp [h] at hy ⊢; exact hy
        · simp [Array.getElem?_eq_none h] at hy
      obtain ⟨st1, h1, h2⟩ := stepsR_pull M1 M2 st (fun y hy sa sb sc hsa hsb => by
        have hyun : listed.getD y true = false := (hM y).1 (by simp [hy])
        have hylt : y < ops.size := by have := hM1 y hy; omega
        have hoy : ops[y]? = some ops[y] := by simp [hylt]
        have hbit : ((masksD [] ops.toList).getD i 0).testBit y = false := by
          cases hb : ((masksD [] ops.toList).getD i 0).testBit y with
          | false => rfl
          | true => have := hmask y hb; rw [hunl y hyun] at this; cases this
        have hbit' : ((masksD [] ops.toList).getD y 0).testBit i = false := by
          cases hb : ((masksD [] ops.toList).getD y 0).testBit i with
          | false => rfl
          | true => have := hf.lt y i hylt hb; have := hM1 y hy; omega
        have hp := (hf.pass y i _ oi hoy hoi (hM1 y hy)).resolve_left (by rw [hbit]; simp)
        exact stepR_swap hpure hm hoy hoi (by have := hM1 y hy; omega) hp (fun x t h => lates_tgt h) hbit hbit' hsa hsb) hs
      refine stepR_ok hE hP hcall hr h1 (fun a1 w1 σ1 hr1 he1 => ?_)
      have hget : ∀ j d, (listed.setIfInBounds i true).getD j d = if j = i then true else listed.getD j d := by
        intro j d
        by_cases hji : j = i
        · subst hji
          have : j < listed.size := by omega
          simp [this]
        · rw [if_neg hji, getD_set_ne d (fun e => hji e.symm)]
      have hnot : i ∉ M1 ++ M2 := by
        intro h
        rcases List.mem_append.1 h with h | h
        · have := hM1 i h; omega
        · have := (List.pairwise_cons.1 (List.pairwise_append.1 hsort).2.1).1 i h; omega
      refine ih (M1 ++ M2) (listed.setIfInBounds i true) st1 σ1 a1 w1 (by simp at hl ⊢; omega) (by simpa using hsz) (fun j => ?_) ?_ (fun k j hk hj => ?_) h2 hr1 (fun a' w' σ' hr' he' => hn a' w' σ' hr' (he1.trans he'))
      · rw [hget]
        by_cases hji : j = i
        · subst hji
          rw [if_pos rfl]
          exact ⟨fun h => absurd h hnot, fun h => by cases h⟩
        · rw [if_neg hji, ← hM j]
          simp [hji]
      · exact hsort.sublist (List.Sublist.append_left (List.sublist_cons_self i M2) M1)
      · rw [hget] at hk ⊢
        by_cases hji : j = i
        · rw [if_pos hji]
        · rw [if_neg hji]
          by_cases hki : k = i
          · subst hki; exact hmask j hj
          · rw [if_neg hki] at hk
            exact hdown k j hk hj

/-- Places are kept at the end of the boxes. -/
theorem Inv.reserve {B : Nat} {w0 : Start} {σ : Sg} {H : Heap} {w : World} (h : Inv B w0 σ H w) (n : Nat) : Inv B w0 σ (H ++ List.replicate n deadBox) w := by
  have hold : ∀ (i : Nat) (b : Box), (H ++ List.replicate n deadBox)[i]? = some b → b.live = true → H[i]? = some b := by
    intro i b hb hl
    rw [List.getElem?_append] at hb
    split at hb
    · exact hb
    · have := (List.mem_replicate.1 (List.mem_of_getElem? hb)).2
      subst this
      cases hl
  refine ⟨h.below, h.size, fun id L hL => ?_, fun i b hb hl => h.boxes i b (hold i b hb hl) hl, fun i j b1 b2 L1 L2 g h1 h2 l1 l2 => h.apart i j b1 b2 L1 L2 g (hold i b1 h1 l1) (hold j b2 h2 l2) l1 l2, h.cells,
    fun b c hc i bx L hb hl => h.floor b c hc i bx L (hold i bx hb hl) hl, fun i b hb hl => h.low i b (hold i b hb hl) hl, h.old, h.kept⟩
  obtain ⟨b, h1, h2⟩ := h.dom id L hL
  exact ⟨b, by rw [List.getElem?_append_left (List.getElem?_eq_some_iff.1 h1).1]; exact h1, h2⟩

theorem draw_ok {B : Nat} {w0 : Start} {σ : Sg} {P : Program} {st st' : St} {a : Act} {w : World} (hE : EnvOK E) (hP : E.P = P) (hmix : P.follows .mixedOrders = true) (hcall : CallOK P E B w0 call) (hpure : CallsOK E call) (hd : drawOK E ops = true)
    (h : Rel E B w0 σ st a w) (hs : drawD call E ops st = some st') {id : Nat} {Q : Exit → Act → World → Prop} (hn : ∀ a' w' σ', Rel E B w0 σ' st' a' w' → Ext σ w σ' w' → Q .normal a' w') : (Code.region id ops true).wp P Q a w := by
  have hg : w.grownBy { w with drawn := w.drawn + 1 } none := ⟨rfl, rfl, rfl, Nat.le_refl _, fun _ _ _ => rfl⟩
  obtain ⟨hI, hEx⟩ := h.inv.grown hg
  refine wp_region_any hmix ?_
  unfold drawD at hs
  refine wpAny_ok hE hP hcall hpure (drawOK_facts hd) (m := if ops.any (fun o => decide (clsOf E o = .a)) then ops.size else 0) (fun i o ho hc => ?_) ops.size (List.range ops.size) _ _ σ a _ (by simp) (by simp) (fun j => ?_) List.pairwise_lt_range (fun k j hk => ?_) hs
    ⟨hI.reserve _, h.glob.ext hEx, h.slots.ext hEx, h.calm⟩ (fun a' w' σ' hr he => hn a' w' σ' hr (hEx.trans he))
  · have : ops.any (fun o => decide (clsOf E o = .a)) = true := Array.any_eq_true'.2 ⟨o, Array.mem_of_getElem? ho, by simpa using hc⟩
    rw [if_pos this]
    exact (Array.getElem?_eq_some_iff.1 ho).1
  · rw [List.mem_range]
    rcases Nat.lt_or_ge j ops.size with hj | hj
    · simp [hj]
    · simp [Nat.not_lt.2 hj]
  · exfalso
    rcases Nat.lt_or_ge k ops.size with hj | hj
    · simp [hj] at hk
    · simp [hj] at hk

end

end Go.Proofs.YtkepnndakhpgoaaGreatDoor.Le

/-
  An evaluator for the model's code over pure values: code, loops, bodies and calls.
-/
namespace Go.Proofs.YtkepnndakhpgoaaGreatDoor.Le
set_option linter.unusedVariables false
open Go.RowKit (Below)

def Ex.out : Ex → Exit
  | .normal => .normal
  | .ret => .ret
  | .exit id => .exit id

def LoopOK (P : Program) (E : Env) (B : Nat) (w0 : Start) (f : FuncId) (lp : Code → St → Option (Ex × St)) : Prop :=
  ∀ b st ex st', calmC E f b = true → lp b st = some (ex, st') → ∀ (Q : Exit → Act → World → Prop) σ a w, Rel E B w0 σ st a w →
    (∀ a' w' σ', Rel E B w0 σ' st' a' w' → Ext σ w σ' w' → Q ex.out a' w') → (Code.loop b).wp P Q a w

section
variable {P : Program} {E : Env} {B : Nat} {w0 : Start} {call : CallF} {f : FuncId}

theorem code_ok (hE : EnvOK E) (hP : E.P = P) (hcall : CallOK P E B w0 call) (hpure : CallsOK E call) {lp : Code → St → Option (Ex × St)} (hlp : LoopOK P E B w0 f lp) :
    ∀ (c : Code) (st : St) (ex : Ex) (st' : St), calmC E f c = true → codeD call lp E f c st = some (ex, st') → ∀ (Q : Exit → Act → World → Prop) (σ : Sg) (a : Act) (w : World), Rel E B w0 σ st a w →
      (∀ a' w' σ', Rel E B w0 σ' st' a' w' → Ext σ w σ' w' → Q ex.out a' w') → c.wp P Q a w := by
  intro c
  induction c with
  | skip =>
    intro st ex st' hc h Q σ a w hr hn
    simp only [codeD, Option.some.injEq, Prod.mk.injEq] at h
    obtain ⟨rfl, rfl⟩ := h
    exact wp_skip (hn a w σ hr (Ext.refl σ w))
  | region id ops draw =>
    intro st ex st' hc h Q σ a w hr hn
    cases draw with
    | false =>
      simp only [codeD] at h
      cases hs : opsD call E ops (List.range ops.size) st with
      | none => simp [hs] at h
      | some r =>
        simp only [hs, Option.map_some, Option.some.injEq, Prod.mk.injEq] at h
        obtain ⟨rfl, rfl⟩ := h
        exact wp_region (opsD_ok hE hP hcall _ st σ a w hr hs hn)
    | true =>
      simp only [codeD] at h
      split at h
      · rename_i hcalm
        cases hs : drawD call E ops st with
        | none => simp [hs] at h
        | some r =>
          simp only [hs, Option.map_some, Option.some.injEq, Prod.mk.injEq] at h
          obtain ⟨rfl, rfl⟩ := h
          refine draw_ok hE hP (by rw [← hP]; exact hE.mix) hcall hpure ?_ hr hs hn
          simpa [calmC, hcalm] using hc
      · cases h
  | seq x y ihx ihy =>
    intro st ex st' hc h Q σ a w hr hn
    simp only [calmC, Bool.and_eq_true] at hc
    simp only [codeD] at h
    split at h
    · rename_i st1 h1
      exact wp_seq (ihx st .normal st1 hc.1 h1 _ σ a w hr (fun a1 w1 σ1 hr1 he1 => ihy st1 ex st' hc.2 h Q σ1 a1 w1 hr1 (fun a' w' σ' hr' he' => hn a' w' σ' hr' (he1.trans he'))))
    · rename_i hne
      refine wp_seq (ihx st ex st' hc.1 h _ σ a w hr (fun a1 w1 σ1 hr1 he1 => ?_))
      have := hn a1 w1 σ1 hr1 he1
      cases ex with
      | normal => exact absurd h (hne _)
      | ret => exact this
      | exit id => exact this
  | cond c x y ihx ihy =>
    intro st ex st' hc h Q σ a w hr hn
    simp only [calmC, Bool.and_eq_true] at hc
    simp only [codeD] at h
    split at h
    · rename_i t ht
      have hv := ev_reps (a := a) hr.glob hr.slots c
      rw [ht] at hv
      have hb : a.eval c = .bool t := by generalize a.eval c = v at hv; cases hv; rfl
      refine wp_cond hb ?_
      cases t with
      | true => exact ihx st ex st' hc.1 h Q σ a w hr hn
      | false => exact ihy st ex st' hc.2 h Q σ a w hr hn
    · cases h
  | block id b ih =>
    intro st ex st' hc h Q σ a w hr hn
    simp only [calmC] at hc
    simp only [codeD] at h
    split at h
    · rename_i i st1 h1
      refine wp_block (ih st (.exit i) st1 hc h1 _ σ a w hr (fun a1 w1 σ1 hr1 he1 => ?_))
      simp only [Ex.out, Exit.inBlock]
      split at h
      · rename_i hi
        cases h
        rw [if_pos hi]
        exact hn a1 w1 σ1 hr1 he1
      · rename_i hi
        cases h
        rw [if_neg hi]
        exact hn a1 w1 σ1 hr1 he1
    · rename_i hne
      refine wp_block (ih st ex st' hc h _ σ a w hr (fun a1 w1 σ1 hr1 he1 => ?_))
      have := hn a1 w1 σ1 hr1 he1
      cases ex with
      | normal => exact this
      | ret => exact this
      | exit i => exact absurd h (hne _ _)
  | loop b ih =>
    intro st ex st' hc h Q σ a w hr hn
    exact hlp b st ex st' hc h Q σ a w hr hn
  | exit id =>
    intro st ex st' hc h Q σ a w hr hn
    simp only [codeD, Option.some.injEq, Prod.mk.injEq] at h
    obtain ⟨rfl, rfl⟩ := h
    exact wp_exit (hn a w σ hr (Ext.refl σ w))
  | ret =>
    intro st ex st' hc h Q σ a w hr hn
    simp only [codeD, Option.some.injEq, Prod.mk.injEq] at h
    obtain ⟨rfl, rfl⟩ := h
    exact wp_ret (hn a w σ hr (Ext.refl σ w))
  | _ =>
    intro st ex st' hc h
    cases h

theorem loop_ok (hE : EnvOK E) (hP : E.P = P) (hcall : CallOK P E B w0 call) (hpure : CallsOK E call) : ∀ n, LoopOK P E B w0 f (loopD call E f n) := by
  have key : ∀ n, ∀ b st ex st', calmC E f b = true → loopD call E f n b st = some (ex, st') → ∀ (Q : Exit → Act → World → Prop) σ a w, Rel E B w0 σ st a w →
    (∀ a' w' σ', Rel E B w0 σ' st' a' w' → Ext σ w σ' w' → Q ex.out a' w') → Code.rounds P b Q n a w := by
    intro n
    induction n with
    | zero => intro b st ex st' hc h; cases h
    | succ n ih =>
      intro b st ex st' hc h Q σ a w hr hn
      rw [rounds_succ]
      have hlp : LoopOK P E B w0 f (loopD call E f n) := fun b st ex st' hc h Q σ a w hr hn => wp_loop_rounds n (ih b st ex st' hc h Q σ a w hr hn)
      simp only [loopD] at h
      split at h
      · rename_i st1 h1
        exact code_ok hE hP hcall hpure hlp b st .normal st1 hc h1 _ σ a w hr (fun a1 w1 σ1 hr1 he1 => ih b st1 ex st' hc h Q σ1 a1 w1 hr1 (fun a' w' σ' hr' he' => hn a' w' σ' hr' (he1.trans he')))
      · rename_i hne
        refine code_ok hE hP hcall hpure hlp b st ex st' hc h _ σ a w hr (fun a1 w1 σ1 hr1 he1 => ?_)
        have := hn a1 w1 σ1 hr1 he1
        cases ex with
        | normal => exact absurd h (hne _)
        | ret => exact this
        | exit id => exact this
  exact fun n b st ex st' hc h Q σ a w hr hn => wp_loop_rounds n (key n b st ex st' hc h Q σ a w hr hn)

/-! ### results and bodies -/

theorem loadVar_ok {σ : Sg} {H : Heap} {w : World} (hE : EnvOK E) (hP : E.P = P) (hI : Inv B w0 σ H w) {t : TypeId} {x r : V} {v : Value} (hx : Reps σ w [x] [v]) (h : loadD E H t x = some r) :
    ∃ u, (do loadVar t (← asAddr v) : Sem Value).run P w = .ok u w ∧ Reps σ w [r] [u] := by
  obtain ⟨u, hu, hr⟩ := load_ok (P := P) hE hP hI hx h
  refine ⟨u, ?_, hr⟩
  have hv : ∃ A, v = .pointer (some A) := by
    unfold loadD at h
    split at h
    · cases h
    · split at h
      · cases hx; exact ⟨_, rfl⟩
      · cases hx with
        | ptr g _ _ _ h4 _ => exact ⟨_, h4⟩
      · cases h
  obtain ⟨A, rfl⟩ := hv
  rw [← hu]
  simp [Instr.loadAt, asAddr, Instr.sureAddr]

theorem res_ok {σ : Sg} {H : Heap} {w : World} {s : List V} {tmps : Array Value} (hE : EnvOK E) (hP : E.P = P) (hI : Inv B w0 σ H w) (hs : Reps σ w s tmps.toList) : ∀ (rs : List ResultVar) (xs : List V), rs.mapM (resD E H s) = some xs →
    ∃ vs, (rs.mapM (fun (r : ResultVar) => (match r with | .tmp t => pure (tmps.getD t undef) | .cell a t => do loadVar t (← asAddr (tmps.getD a undef)) : Sem Value))).run P w = .ok vs w ∧ Reps σ w xs vs := by
  have hget : ∀ t, Reps σ w [s.getD t .und] [tmps.getD t undef] := fun t => by
    have := getD_reps hs t
    simpa using this
  intro rs
  induction rs with
  | nil =>
    intro xs h
    simp at h
    subst h
    exact ⟨[], rfl, .nil⟩
  | cons r rs ih =>
    intro xs h
    rw [List.mapM_cons] at h
    cases hr : resD E H s r with
    | none => simp [hr] at h
    | some x =>
      cases hrs : rs.mapM (resD E H s) with
      | none => simp [hr, hrs] at h
      | some xs' =>
        simp [hr, hrs] at h
        subst h
        obtain ⟨vs, hv, hx⟩ := ih xs' hrs
        have h1 : ∃ u, ((match r with | .tmp t => pure (tmps.getD t undef) | .cell a t => do loadVar t (← asAddr (tmps.getD a undef)) : Sem Value)).run P w = .ok u w ∧ Reps σ w [x] [u] := by
          cases r with
          | tmp t =>
            simp only [resD, Option.some.injEq] at hr
            subst hr
            exact ⟨_, rfl, hget t⟩
          | cell a t => exact loadVar_ok hE hP hI (hget a) hr
        obtain ⟨u, hu, hur⟩ := h1
        refine ⟨u :: vs, ?_, Reps.cons_iff.2 ⟨hur, hx⟩⟩
        rw [List.mapM_cons, Sem.run_bind, hu, Result.andThen_ok, Sem.run_bind, hv, Result.andThen_ok]
        rfl

theorem results_ok {σ : Sg} {H : Heap} {w : World} {s : List V} {tmps : Array Value} (hE : EnvOK E) (hP : E.P = P) (hI : Inv B w0 σ H w) (hs : Reps σ w s tmps.toList) {fn : Func} {x : V} (h : resultsD E H s fn.results.toList = some x) :
    ∃ u, (results fn tmps).run P w = .ok u w ∧ Reps σ w [x] [u] := by
  unfold resultsD at h
  cases hm : fn.results.toList.mapM (resD E H s) with
  | none => simp [hm] at h
  | some xs =>
    obtain ⟨vs, hv, hr⟩ := res_ok (P := P) hE hP hI hs _ xs hm
    have hrun : (results fn tmps).run P w = .ok (if h : vs.toArray.size = 1 then vs.toArray[0] else .tuple vs.toArray) w := by
      unfold results
      rw [Sem.run_bind]
      have hm2 : (fn.results.mapM (fun (r : ResultVar) => (match r with | .tmp t => pure (tmps.getD t undef) | .cell a t => do loadVar t (← asAddr (tmps.getD a undef)) : Sem Value))).run P w = .ok vs.toArray w := by
        rw [Array.mapM_eq_mapM_toList, map_eq_pure_bind, Sem.run_bind, hv, Result.andThen_ok]
        rfl
      have := congrArg (fun r => Result.andThen r fun (vs : Array Value) (w' : World) => (pure (if h : vs.size = 1 then vs[0] else .tuple vs) : Sem Value).run P w') hm2
      exact this
    refine ⟨_, hrun, ?_⟩
    rw [hm] at h
    have hlen := hr.length
    split at h
    · rename_i v hh
      cases hh
      simp only [Option.some.injEq] at h
      subst h
      obtain ⟨u, vs', rfl, h1, h2⟩ := hr.cons_left
      cases h2.nil_left
      simpa using h1
    · rename_i ys hne hh
      cases hh
      simp only [Option.some.injEq] at h
      subst h
      have : ¬ vs.toArray.size = 1 := by
        intro hh
        simp at hh
        rw [← hlen] at hh
        obtain ⟨y, rfl⟩ := List.length_eq_one_iff.1 hh
        exact hne y rfl
      rw [dif_neg this]
      exact .tup hr .nil
    · rename_i hh; cases hh

end

end Go.Proofs.YtkepnndakhpgoaaGreatDoor.Le

/-
  Calls that are given boxes: another name for a box, cells made ready, a part of the boxes, and the way back.
-/
namespace Go.Proofs.YtkepnndakhpgoaaGreatDoor.Le
set_option linter.unusedVariables false
open Go.RowKit (Below)

def bare (fz : Nat → Nat → Prop) : Sg := ⟨fun _ => none, fz⟩

theorem Lies.bare {σ σ' : Sg} {w w' : World} {b o : Nat} {us : List Value} (h : Lies σ w b o us) (hfz : ∀ b c, σ.fz b c → σ'.fz b c ∧ w'.cell? ⟨b, c, none⟩ = w.cell? ⟨b, c, none⟩) : Lies σ' w' b o us := fun j u hu => by
  obtain ⟨h1, h2⟩ := h j u hu
  obtain ⟨e1, e2⟩ := hfz _ _ h1
  exact ⟨e1, e2.trans h2⟩

/-- What holds no references does not ask for the boxes. -/
theorem Reps.bare {σ σ' : Sg} {w w' : World} {xs : List V} {vs : List Value} (h : Reps σ w xs vs) (hfz : ∀ b c, σ.fz b c → σ'.fz b c ∧ w'.cell? ⟨b, c, none⟩ = w.cell? ⟨b, c, none⟩) :
    noRefs xs = true → Reps σ' w' xs vs := by
  induction h with
  | nil => intro _; exact .nil
  | und u _ ih => intro hn; simp [noRefs] at hn; exact .und u (ih hn.2)
  | no _ ih => intro hn; simp [noRefs] at hn; exact .no (ih hn.2)
  | lit hl _ ih => intro hn; simp [noRefs] at hn; exact .lit hl (ih hn.2)
  | agg _ ho _ ih1 ih2 => intro hn; simp [noRefs, noRef] at hn; exact .agg (ih1 hn.1) ho (ih2 hn.2)
  | tup _ _ ih1 ih2 => intro hn; simp [noRefs, noRef] at hn; exact .tup (ih1 hn.1) (ih2 hn.2)
  | slnil _ ih => intro hn; simp [noRefs] at hn; exact .slnil (ih hn.2)
  | sltnil _ ih => intro hn; simp [noRefs] at hn; exact .sltnil (ih hn.2)
  | slemp a _ ih => intro hn; simp [noRefs] at hn; exact .slemp a (ih hn.2)
  | sltemp a _ ih => intro hn; simp [noRefs] at hn; exact .sltemp a (ih hn.2)
  | sl b o c e' _ h0 h1 h2 h3 h4 h5 _ ih1 ih2 => intro hn; simp [noRefs, noRef] at hn; exact .sl b o c e' (ih1 hn.1) h0 h1 h2 h3 h4 (h5.bare hfz) (ih2 hn.2)
  | slt b o e' _ h0 h1 h2 h3 h4 _ ih1 ih2 => intro hn; simp [noRefs, noRef] at hn; exact .slt b o e' (ih1 hn.1) h0 h1 h2 h3 (h4.bare hfz) (ih2 hn.2)
  | lsl h1 h2 h3 h4 _ ih => intro hn; simp [noRefs, noRef] at hn
  | ptr g h1 h2 h3 h4 _ ih => intro hn; simp [noRefs, noRef] at hn
  | ept b o e' i off _ h0 h1 h2 h3 _ ih1 ih2 => intro hn; simp [noRefs, noRef] at hn; exact .ept b o e' i off (ih1 hn.1) h0 h1 h2 (h3.bare hfz) (ih2 hn.2)
  | fn _ _ _ ih1 ih2 ih3 => intro hn; simp [noRefs, noRef] at hn; exact .fn (ih1 hn.1.1) (ih2 hn.1.2) (ih3 hn.2)
  | ifc _ _ ih1 ih2 => intro hn; simp [noRefs, noRef] at hn; exact .ifc (ih1 (by simp [noRefs, hn.1])) (ih2 hn.2)

theorem GlobOK.bare {E : Env} {σ σ' : Sg} {w w' : World} (h : GlobOK E σ w) (hfz : ∀ b c, σ.fz b c → σ'.fz b c ∧ w'.cell? ⟨b, c, none⟩ = w.cell? ⟨b, c, none⟩) : GlobOK E σ' w' := by
  intro g r hg
  have hr := h g r hg
  generalize hv : Value.pointer (some ⟨g, 0, none⟩) = v at hr ⊢
  cases hr with
  | ept b o e' i off k0 k1 k2 k3 k4 _ => exact .ept b o _ _ _ (k0.bare hfz (fzV_noRefs k1)) k1 k2 k3 (k4.bare hfz) .nil


/-! ### other names -/

theorem refsFs_mem {xs : List V} {id : Nat} : id ∈ refsFs xs ↔ ∃ x ∈ xs, id ∈ refsF x := by
  induction xs with
  | nil => simp [refsFs]
  | cons x xs ih => simp [refsFs, ih]
theorem refsFs_append (xs ys : List V) : refsFs (xs ++ ys) = refsFs xs ++ refsFs ys := by
  induction xs with
  | nil => simp [refsFs]
  | cons x xs ih => simp [refsFs, ih]
theorem renFs_map (ρ : Nat → Nat) (xs : List V) : renFs ρ xs = xs.map (renF ρ) := by
  induction xs with
  | nil => rfl
  | cons x xs ih => simp [renFs, ih]
theorem renFs_length (ρ : Nat → Nat) (xs : List V) : (renFs ρ xs).length = xs.length := by rw [renFs_map]; simp

theorem renF_ok (ρ : Nat → Nat) (x : V) : okV (renF ρ x) = okV x := by cases x <;> simp [renF, okV]

theorem renFs_reps {σ σ' : Sg} {w w' : World} {ρ : Nat → Nat} {xs : List V} {vs : List Value} (h : Reps σ w xs vs) (hfz : ∀ b c, σ.fz b c → σ'.fz b c ∧ w'.cell? ⟨b, c, none⟩ = w.cell? ⟨b, c, none⟩) :
    (∀ id ∈ refsFs xs, σ'.box (ρ id) = σ.box id) → Reps σ' w' (renFs ρ xs) vs := by
  induction h with
  | nil => intro _; exact .nil
  | und u _ ih => intro hn; exact .und u (ih fun id h => hn id (by simp [refsFs, h]))
  | no _ ih => intro hn; exact .no (ih fun id h => hn id (by simp [refsFs, h]))
  | lit hl _ ih => intro hn; exact .lit hl (ih fun id h => hn id (by simp [refsFs, h]))
  | agg _ ho _ ih1 ih2 => intro hn; exact .agg (ih1 fun id h => hn id (by simp [refsFs, refsF, h])) ho (ih2 fun id h => hn id (by simp [refsFs, h]))
  | tup _ _ ih1 ih2 => intro hn; exact .tup (ih1 fun id h => hn id (by simp [refsFs, refsF, h])) (ih2 fun id h => hn id (by simp [refsFs, h]))
  | slnil _ ih => intro hn; exact .slnil (ih fun id h => hn id (by simp [refsFs, h]))
  | sltnil _ ih => intro hn; exact .sltnil (ih fun id h => hn id (by simp [refsFs, h]))
  | slemp a _ ih => intro hn; exact .slemp a (ih fun id h => hn id (by simp [refsFs, h]))
  | sltemp a _ ih => intro hn; exact .sltemp a (ih fun id h => hn id (by simp [refsFs, h]))
  | sl b o c e' h h0 h1 h2 h3 h4 h5 _ _ ih2 => intro hn; exact .sl b o c e' (h.bare hfz (fzV_noRefs h0)) h0 h1 h2 h3 h4 (h5.bare hfz) (ih2 fun id h => hn id (by simp [refsFs, h]))
  | slt b o e' h h0 h1 h2 h3 h4 _ _ ih2 => intro hn; exact .slt b o e' (h.bare hfz (fzV_noRefs h0)) h0 h1 h2 h3 (h4.bare hfz) (ih2 fun id h => hn id (by simp [refsFs, h]))
  | lsl h1 h2 h3 h4 _ ih => intro hn; exact .lsl ((hn _ (by simp [refsFs, refsF])).trans h1) h2 h3 h4 (ih fun id h => hn id (by simp [refsFs, h]))
  | ptr g h1 h2 h3 h4 _ ih => intro hn; exact .ptr g ((hn _ (by simp [refsFs, refsF])).trans h1) h2 h3 h4 (ih fun id h => hn id (by simp [refsFs, h]))
  | ept b o e' i off h h0 h1 h2 h3 _ _ ih2 => intro hn; exact .ept b o e' i off (h.bare hfz (fzV_noRefs h0)) h0 h1 h2 (h3.bare hfz) (ih2 fun id h => hn id (by simp [refsFs, h]))
  | fn _ _ _ ih1 ih2 ih3 => intro hn; exact .fn (ih1 fun id h => hn id (by simp [refsFs, refsF, h])) (ih2 fun id h => hn id (by simp [refsFs, refsF, h])) (ih3 fun id h => hn id (by simp [refsFs, h]))
  | ifc _ _ ih1 ih2 => intro hn; exact .ifc (ih1 fun id h => hn id (by simp [refsFs, refsF] at h ⊢; simp [h])) (ih2 fun id h => hn id (by simp [refsFs, h]))

theorem renF_reps {σ σ' : Sg} {w w' : World} {ρ : Nat → Nat} {x : V} {v : Value} (h : Reps σ w [x] [v]) (hfz : ∀ b c, σ.fz b c → σ'.fz b c ∧ w'.cell? ⟨b, c, none⟩ = w.cell? ⟨b, c, none⟩)
    (hn : ∀ id ∈ refsF x, σ'.box (ρ id) = σ.box id) : Reps σ' w' [renF ρ x] [v] := renFs_reps h hfz (by simpa [refsFs] using hn)

/-! ### cells made ready -/

/-- The same boxes, some floors raised; perhaps more. -/
structure Keeps (H H1 : Heap) : Prop where
  len : H.length ≤ H1.length
  at_ : ∀ (id : Nat) (b : Box), H[id]? = some b → ∃ b', H1[id]? = some b' ∧ b'.live = b.live ∧ b'.row = b.row ∧ b'.xs = b.xs

theorem Keeps.refl (H : Heap) : Keeps H H := ⟨Nat.le_refl _, fun id b h => ⟨b, h, rfl, rfl, rfl⟩⟩
theorem Keeps.trans {A B C : Heap} (h : Keeps A B) (k : Keeps B C) : Keeps A C :=
  ⟨Nat.le_trans h.len k.len, fun id b hb => by
    obtain ⟨b1, h1, h2, h3, h4⟩ := h.at_ id b hb
    obtain ⟨b2, k1, k2, k3, k4⟩ := k.at_ id b1 h1
    exact ⟨b2, k1, k2.trans h2, k3.trans h3, k4.trans h4⟩⟩
theorem Keeps.bump (H : Heap) (ids : List Nat) : Keeps H (bump H ids) :=
  ⟨by rw [bump_length]; exact Nat.le_refl _, fun id b hb => ⟨_, by rw [bump_get, hb]; rfl, by split <;> rfl, by split <;> rfl, by split <;> rfl⟩⟩
theorem Keeps.push (H : Heap) (b : Box) : Keeps H (H ++ [b]) :=
  ⟨by simp, fun id b' hb => ⟨b', by rw [List.getElem?_append_left (List.getElem?_eq_some_iff.1 hb).1]; exact hb, rfl, rfl, rfl⟩⟩

section
variable {B : Nat} {w0 : Start} {σ : Sg} {H H1 : Heap} {w : World}

theorem prep1_ok (h : Inv B w0 σ H w) {f : Fk} {x y : V} {v : Value} (hr : Reps σ w [x] [v]) (hp : prep1 f H x = some (y, H1)) : Keeps H H1 ∧ ∃ σ', Inv B w0 σ' H1 w ∧ Ext σ w σ' w ∧ Reps σ' w [y] [v] := by
  have mk : ∀ (e : TypeId) (sz : Nat), ∃ σ', Inv B w0 σ' (H ++ [newBox true false e sz []]) w ∧ Ext σ w σ' w ∧ Reps σ' w [.lsl H.length 0 0 0] [.slice none 0 0] := by
    intro e sz
    obtain ⟨σ', h1, h2, h3⟩ := push_ok (e := e) (esz := sz) (v' := .slice none 0 0) h (freeB_end H) (grownBy_refl w none) (xs := []) (us := []) .nil (by simp) (by simp) (by simp [flat]) ⟨by simp [flat], .inl ⟨rfl, rfl⟩⟩ (by simp [Value.ownBlock]) false (by simp)
    exact ⟨σ', by rw [place_end] at h1; exact h1, h2, h3⟩
  cases f with
  | s e sz =>
    simp only [prep1] at hp
    cases hf : frz0 H x with
    | none => simp [hf] at hp
    | some y0 =>
      simp only [hf, Option.map_some, Option.some.injEq, Prod.mk.injEq] at hp
      obtain ⟨rfl, rfl⟩ := hp
      obtain ⟨h1, h2⟩ := h.freeze (ids1 x)
      exact ⟨Keeps.bump _ _, _, h1, h2, retype1_reps sz (frz0_reps h hr hf (ids1 x) (fun i hi => hi))⟩
  | own e sz =>
    simp only [prep1] at hp
    unfold prepO at hp
    split at hp
    · simp only [Option.some.injEq, Prod.mk.injEq] at hp
      obtain ⟨rfl, rfl⟩ := hp
      cases hr with
      | slnil _ => exact ⟨Keeps.push _ _, mk e sz⟩
    · simp only [Option.some.injEq, Prod.mk.injEq] at hp
      obtain ⟨rfl, rfl⟩ := hp
      cases hr with
      | sltnil _ => exact ⟨Keeps.push _ _, mk e sz⟩
    · split at hp
      · simp only [Option.some.injEq, Prod.mk.injEq] at hp
        obtain ⟨rfl, rfl⟩ := hp
        exact ⟨Keeps.refl _, σ, h, Ext.refl _ _, hr⟩
      · cases hp
    · cases hp
  | keep =>
    simp only [prep1, Option.some.injEq, Prod.mk.injEq] at hp
    obtain ⟨rfl, rfl⟩ := hp
    exact ⟨Keeps.refl _, σ, h, Ext.refl _ _, hr⟩

theorem prepL_ok : ∀ {fl : List Fk} {H : Heap} {σ : Sg} {xs ys : List V} {vs : List Value} {H1 : Heap}, Inv B w0 σ H w → Reps σ w xs vs → prepL fl H xs = some (ys, H1) → Keeps H H1 ∧ ∃ σ', Inv B w0 σ' H1 w ∧ Ext σ w σ' w ∧ Reps σ' w ys vs := by
  intro fl
  induction fl with
  | nil =>
    intro H σ xs ys vs H1 h hr hp
    cases xs with
    | nil =>
      simp only [prepL, Option.some.injEq, Prod.mk.injEq] at hp
      obtain ⟨rfl, rfl⟩ := hp
      exact ⟨Keeps.refl _, σ, h, Ext.refl _ _, hr⟩
    | cons => simp [prepL] at hp
  | cons f fl ih =>
    intro H σ xs ys vs H1 h hr hp
    cases xs with
    | nil => simp [prepL] at hp
    | cons x xs =>
      obtain ⟨v, vs', rfl, hr1, hr2⟩ := hr.cons_left
      simp only [prepL] at hp
      cases h1 : prep1 f H x with
      | none => simp [h1] at hp
      | some r =>
        obtain ⟨y, Ha⟩ := r
        simp only [h1] at hp
        cases h2 : prepL fl Ha xs with
        | none => simp [h2] at hp
        | some r =>
          obtain ⟨ys', Hb⟩ := r
          simp only [h2, Option.some.injEq, Prod.mk.injEq] at hp
          obtain ⟨rfl, rfl⟩ := hp
          obtain ⟨k1, σ1, i1, e1, r1⟩ := prep1_ok h hr1 h1
          obtain ⟨k2, σ2, i2, e2, r2⟩ := ih i1 (hr2.ext e1) h2
          exact ⟨k1.trans k2, σ2, i2, e1.trans e2, Reps.cons_iff.2 ⟨r1.ext e2, r2⟩⟩

theorem prepV_ok (h : Inv B w0 σ H w) {fl : List Fk} {x y : V} {v : Value} (hr : Reps σ w [x] [v]) (hp : prepV fl H x = some (y, H1)) : Keeps H H1 ∧ ∃ σ', Inv B w0 σ' H1 w ∧ Ext σ w σ' w ∧ Reps σ' w [y] [v] := by
  unfold prepV at hp
  split at hp
  · rename_i cs
    cases hl : prepL fl H cs with
    | none => simp [hl] at hp
    | some r =>
      obtain ⟨ys, Ha⟩ := r
      simp only [hl, Option.map_some, Option.some.injEq, Prod.mk.injEq] at hp
      obtain ⟨rfl, rfl⟩ := hp
      cases hr with
      | agg h1 ho _ =>
        obtain ⟨k1, σ1, i1, e1, r1⟩ := prepL_ok h h1 hl
        exact ⟨k1, σ1, i1, e1, .agg r1 ho .nil⟩
  · split at hp
    · exact prep1_ok h hr hp
    · cases hp

theorem prepA_ok : ∀ {fl : List (List Fk)} {H : Heap} {σ : Sg} {xs ys : List V} {vs : List Value} {H1 : Heap}, Inv B w0 σ H w → Reps σ w xs vs → prepA fl H xs = some (ys, H1) → Keeps H H1 ∧ ∃ σ', Inv B w0 σ' H1 w ∧ Ext σ w σ' w ∧ Reps σ' w ys vs := by
  intro fl
  induction fl with
  | nil =>
    intro H σ xs ys vs H1 h hr hp
    cases xs with
    | nil =>
      simp only [prepA, Option.some.injEq, Prod.mk.injEq] at hp
      obtain ⟨rfl, rfl⟩ := hp
      exact ⟨Keeps.refl _, σ, h, Ext.refl _ _, hr⟩
    | cons => simp [prepA] at hp
  | cons f fl ih =>
    intro H σ xs ys vs H1 h hr hp
    cases xs with
    | nil => simp [prepA] at hp
    | cons x xs =>
      obtain ⟨v, vs', rfl, hr1, hr2⟩ := hr.cons_left
      simp only [prepA] at hp
      cases h1 : prepV f H x with
      | none => simp [h1] at hp
      | some r =>
        obtain ⟨y, Ha⟩ := r
        simp only [h1] at hp
        cases h2 : prepA fl Ha xs with
        | none => simp [h2] at hp
        | some r =>
          obtain ⟨ys', Hb⟩ := r
          simp only [h2, Option.some.injEq, Prod.mk.injEq] at hp
          obtain ⟨rfl, rfl⟩ := hp
          obtain ⟨k1, σ1, i1, e1, r1⟩ := prepV_ok h hr1 h1
          obtain ⟨k2, σ2, i2, e2, r2⟩ := ih i1 (hr2.ext e1) h2
          exact ⟨k1.trans k2, σ2, i2, e1.trans e2, Reps.cons_iff.2 ⟨r1.ext e2, r2⟩⟩

/-- A variable's value is shown in another way. -/
theorem Inv.swap (h : Inv B w0 σ H w) {id : Nat} {b : Box} {x y : V} (hb : H[id]? = some b) (hl : b.live = true) (hrow : b.row = false) (hx : b.xs = [x]) (hy : okV y = true) (hr : ∀ v, Reps σ w [x] [v] → Reps σ w [y] [v]) :
    ∃ σ', Inv B w0 σ' (H.set id { b with xs := [y] }) w ∧ Ext σ w σ' w := by
  obtain ⟨L, hL, hok⟩ := h.boxes id b hb hl
  obtain ⟨us, r1, r2, r3, r4⟩ := hok.reps
  rw [hx] at r1
  obtain ⟨u, us', rfl, r5, r6⟩ := r1.cons_left
  cases r6.nil_left
  obtain ⟨h1, h2⟩ := h.upd hb hl hL (grownBy_refl w _) { b with xs := [y] } hl L rfl (.inl rfl) rfl (by simp [hx]) (fun g hg => .inl hg) (fun _ _ _ _ => rfl)
    (fun ex => ⟨by rw [hok.tot, hx]; rfl, ⟨[u], (hr u r5).ext ex, r2, r3, by simpa [hx] using r4⟩, hok.nilp, hok.esz, by simpa using hy, fun hh => by rw [hrow] at hh; cases hh⟩)
  exact ⟨_, h1, h2⟩

/-- A part of the boxes that names no box outside. -/
structure SubOK (ids : List Nat) (H : Heap) : Prop where
  nodup : ids.Nodup
  at_ : ∀ id ∈ ids, ∃ b, H[id]? = some b ∧ b.live = true ∧ (b.row = false → ∀ r ∈ refsFs b.xs, r ∈ ids)

theorem packH_ok : ∀ (n : Nat) {fb : List Bf} {H : Heap} {σ : Sg} {todo seen ids : List Nat} {H2 : Heap}, Inv B w0 σ H w → packH n fb H todo seen = some (H2, ids) → seen.Nodup →
    (∀ id ∈ seen, ∃ b, H[id]? = some b ∧ b.live = true ∧ (b.row = false → ∀ r ∈ refsFs b.xs, r ∈ seen ++ todo)) →
    H.length ≤ H2.length ∧ (∀ id ∈ seen ++ todo, id ∈ ids) ∧ SubOK ids H2 ∧ ∃ σ', Inv B w0 σ' H2 w ∧ Ext σ w σ' w := by
  intro n
  induction n with
  | zero => intro fb H σ todo seen ids H2 _ h; cases h
  | succ n ih =>
    intro fb H σ todo seen ids H2 hI h hnd hcl
    cases todo with
    | nil =>
      simp only [packH, Option.some.injEq, Prod.mk.injEq] at h
      obtain ⟨rfl, rfl⟩ := h
      exact ⟨Nat.le_refl _, by simp, ⟨hnd, by simpa using hcl⟩, σ, hI, Ext.refl _ _⟩
    | cons id todo =>
      unfold packH at h
      by_cases hin : seen.contains id = true
      · rw [if_pos hin] at h
        have hin' : id ∈ seen := by simpa using hin
        obtain ⟨h1, h2, h3⟩ := ih hI h hnd (fun i hi => by
          obtain ⟨b, k1, k2, k3⟩ := hcl i hi
          exact ⟨b, k1, k2, fun hr r hh => by
            have := k3 hr r hh
            simp only [List.mem_append, List.mem_cons] at this ⊢
            rcases this with hx | rfl | hx
            · exact .inl hx
            · exact .inl hin'
            · exact .inr hx⟩)
        refine ⟨h1, fun i hi => h2 i ?_, h3⟩
        simp only [List.mem_append, List.mem_cons] at hi ⊢
        rcases hi with hx | rfl | hx
        · exact .inl hx
        · exact .inl hin'
        · exact .inr hx
      · rw [if_neg hin] at h
        have hin' : id ∉ seen := by simpa using hin
        have hnd' : (seen ++ [id]).Nodup := by
          rw [List.nodup_append]
          exact ⟨hnd, by simp, fun a ha b hb => by simp at hb; subst hb; intro e; subst e; exact hin' ha⟩
        have hmem : ∀ {i : Nat} {t : List Nat}, i ∈ seen ++ id :: todo → i ∈ (seen ++ [id]) ++ (todo ++ t) := by
          intro i t hi
          simp only [List.mem_append, List.mem_cons] at hi ⊢
          rcases hi with hx | hx | hx
          · exact .inl (.inl hx)
          · exact .inl (.inr (.inl hx))
          · exact .inr (.inl hx)
        split at h
        · rename_i b fresh fb' hb
          split at h
          · rename_i hc
            simp only [Bool.and_eq_true] at hc
            generalize hH' : (if fresh then H else bump H [id]) = H' at h
            have hk : Keeps H H' ∧ ∃ σ', Inv B w0 σ' H' w ∧ Ext σ w σ' w := by
              cases fresh with
              | true => rw [if_pos rfl] at hH'; subst hH'; exact ⟨Keeps.refl _, σ, hI, Ext.refl _ _⟩
              | false =>
                rw [if_neg (by simp)] at hH'
                subst hH'
                obtain ⟨i1, i2⟩ := hI.freeze [id]
                exact ⟨Keeps.bump _ _, _, i1, i2⟩
            obtain ⟨hk, σ1, hI1, hE1⟩ := hk
            obtain ⟨h1, h2, h3, σ2, h4, h5⟩ := ih hI1 h hnd' (fun i hi => by
              simp only [List.mem_append, List.mem_singleton] at hi
              have key : ∃ b0, H[i]? = some b0 ∧ b0.live = true ∧ (b0.row = false → ∀ r ∈ refsFs b0.xs, r ∈ seen ++ id :: todo) := by
                rcases hi with hi | rfl
                · exact hcl i hi
                · exact ⟨b, hb, hc.1, fun hr => by rw [hc.2] at hr; cases hr⟩
              obtain ⟨b0, k1, k2, k3⟩ := key
              obtain ⟨b', m1, m2, m3, m4⟩ := hk.at_ i b0 k1
              refine ⟨b', m1, m2.trans k2, fun hr r hh => ?_⟩
              rw [m4] at hh
              have := hmem (t := []) (k3 (m3 ▸ hr) r hh)
              simpa using this)
            refine ⟨Nat.le_trans hk.len h1, fun i hi => h2 i ?_, h3, σ2, h4, hE1.trans h5⟩
            have := hmem (t := []) hi
            simpa using this
          · cases h
        · rename_i b fl fb' hb
          split at h
          · rename_i hc
            simp only [Bool.and_eq_true, Bool.not_eq_true'] at hc
            split at h
            · rename_i x hx
              split at h
              · rename_i y H1 hp
                split at h
                · rename_i b1 hb1
                  split at h
                  · rename_i hoky
                    obtain ⟨L, hL, hok⟩ := hI.boxes id b hb hc.1
                    obtain ⟨us, r1, r2, r3, r4⟩ := hok.reps
                    rw [hx] at r1
                    obtain ⟨u, us', rfl, r5, r6⟩ := r1.cons_left
                    obtain ⟨hk, σ1, hI1, hE1, hy⟩ := prepV_ok hI r5 hp
                    obtain ⟨b1', m1, m2, m3, m4⟩ := hk.at_ id b hb
                    rw [hb1] at m1
                    cases m1
                    have hlive1 : b1.live = true := m2.trans hc.1
                    have hrow1 : b1.row = false := m3.trans hc.2
                    have hx1 : b1.xs = [x] := m4.trans hx
                    -- the one value that the box holds
                    have hsw : ∃ σ2, Inv B w0 σ2 (H1.set id { b1 with xs := [y] }) w ∧ Ext σ1 w σ2 w := by
                      obtain ⟨L1, hL1, hok1⟩ := hI1.boxes id b1 hb1 hlive1
                      obtain ⟨us1, s1, s2, s3, s4⟩ := hok1.reps
                      rw [hx1] at s1
                      obtain ⟨u1, us1', rfl, s5, s6⟩ := s1.cons_left
                      cases s6.nil_left
                      cases r6.nil_left
                      have hu : u1.cells.toList = u.cells.toList := by
                        obtain ⟨L', hL', he, hLL⟩ := hE1.box id L hL
                        rw [hL1] at hL'
                        cases hL'
                        have ht1 : L1.tot = 1 := by rw [hok1.tot, hx1]; rfl
                        have ht : L.tot = 1 := by rw [hok.tot, hx]; rfl
                        have hLe : L1 = L := by
                          rcases hLL with e | e
                          · exact e
                          · omega
                        subst hLe
                        rcases r4.2 with ⟨hv, hn⟩ | ⟨g, cap, cur, tg, hv, _, hg, _, _, _, _, hcur⟩
                        · rw [hx] at hn; simp at hn
                        · rcases s4.2 with ⟨hv', hn'⟩ | ⟨g', cap', cur', tg', hv', _, hg', _, _, _, _, hcur'⟩
                          · rw [hx1] at hn'; simp at hn'
                          · rw [hv] at hv'
                            simp only [Value.slice.injEq, Option.some.injEq, Addr.mk.injEq, and_true] at hv'
                            obtain ⟨rfl, _, _⟩ := hv'
                            rw [hg] at hg'
                            simp only [Option.some.injEq, Obj.cells.injEq] at hg'
                            obtain ⟨rfl, _⟩ := hg'
                            rw [single_flat] at hcur hcur'
                            rw [← hcur, ← hcur', hx, hx1]
                      obtain ⟨i1, i2⟩ := hI1.upd hb1 hlive1 hL1 (grownBy_refl w _) { b1 with xs := [y] } hlive1 L1 rfl (.inl rfl) rfl (by simp [hx1]) (fun g hg => .inl hg) (fun _ _ _ _ => rfl)
                        (fun ex => ⟨by rw [hok1.tot, hx1]; rfl, ⟨[u], hy.ext ex, fun z hz => by simp at hz; subst hz; rw [← s2 u1 (by simp)]; exact (congrArg List.length hu).symm, fun z hz => s3 z (by rw [single_flat] at hz ⊢; rw [hu]; exact hz), by
                          rw [single_flat, ← hu, ← single_flat]; simpa [hx1] using s4⟩, hok1.nilp, hok1.esz, by simpa using hoky, fun hh => by simp only at hh; rw [hrow1] at hh; cases hh⟩)
                      exact ⟨_, i1, i2⟩
                    obtain ⟨σ2, hI2, hE2⟩ := hsw
                    have hlen1 : id < H1.length := (List.getElem?_eq_some_iff.1 hb1).1
                    obtain ⟨h1, h2, h3, σ3, h4, h5⟩ := ih hI2 h hnd' (fun i hi => by
                      simp only [List.mem_append, List.mem_singleton] at hi
                      by_cases hid : i = id
                      · subst hid
                        refine ⟨{ b1 with xs := [y] }, by simp [hlen1], hlive1, fun _ r hh => ?_⟩
                        simp only [refsFs, List.append_nil] at hh
                        simp [hh]
                      · have hi' : i ∈ seen := by rcases hi with hi | hi; exact hi; exact absurd hi hid
                        obtain ⟨b0, k1, k2, k3⟩ := hcl i hi'
                        obtain ⟨b', q1, q2, q3, q4⟩ := hk.at_ i b0 k1
                        refine ⟨b', by rw [List.getElem?_set_ne (fun e => hid e.symm)]; exact q1, q2.trans k2, fun hr r hh => ?_⟩
                        rw [q4] at hh
                        exact hmem (k3 (q3 ▸ hr) r hh))
                    refine ⟨Nat.le_trans hk.len (by simpa using h1), fun i hi => h2 i (hmem hi), h3, σ3, h4, hE1.trans (hE2.trans h5)⟩
                  · cases h
                · cases h
              · cases h
            · cases h
          · cases h
        · cases h

end

end Go.Proofs.YtkepnndakhpgoaaGreatDoor.Le

/-
  Calls that are given boxes: they are sound.
-/
namespace Go.Proofs.YtkepnndakhpgoaaGreatDoor.Le
set_option linter.unusedVariables false
open Go.RowKit (Below)

def Sg.ren (σ : Sg) (ids : List Nat) : Sg := ⟨fun j => (ids[j]?).bind σ.box, σ.fz⟩

theorem idx_get {ids : List Nat} {id : Nat} (h : id ∈ ids) : ids[ids.idxOf id]? = some id := by
  have hlt := List.idxOf_lt_length_of_mem h
  rw [List.getElem?_eq_getElem hlt, List.getElem_idxOf]

theorem ren_box {σ : Sg} {ids : List Nat} {id : Nat} (h : id ∈ ids) : (σ.ren ids).box (ids.idxOf id) = σ.box id := by
  simp [Sg.ren, idx_get h]


theorem ownsRow_block {w w' : World} {B e sz n : Nat} {v : Value} {us : List Value} (h : ownR w B e sz v n us) (hb : ∀ g, v.ownBlock = some g → w'.heap[g]? = w.heap[g]?) : ownR w' B e sz v n us := by
  refine ⟨h.1, ?_⟩
  rcases h.2 with hn | ⟨g, cap, cur, tg, rfl, h1, h2, rest⟩
  · exact .inl hn
  · exact .inr ⟨g, cap, cur, tg, rfl, h1, by rw [hb g (by simp [Value.ownBlock])]; exact h2, rest⟩

theorem renBox_eqs (ρ : Nat → Nat) (b : Box) : (renBox ρ b).live = b.live ∧ (renBox ρ b).row = b.row ∧ (renBox ρ b).nilp = b.nilp ∧ (renBox ρ b).elem = b.elem ∧ (renBox ρ b).esz = b.esz ∧ (renBox ρ b).floor = b.floor ∧ (renBox ρ b).xs.length = b.xs.length := by
  unfold renBox
  split
  · exact ⟨rfl, rfl, rfl, rfl, rfl, rfl, rfl⟩
  · exact ⟨rfl, rfl, rfl, rfl, rfl, rfl, renFs_length _ _⟩

/-- A box under other names. -/
theorem BoxOK.ren {σ σ' : Sg} {w w' : World} {B : Nat} {b : Box} {L : Loc} (ρ : Nat → Nat) (h : BoxOK σ w B b L) (hfz : ∀ b c, σ.fz b c → σ'.fz b c ∧ w'.cell? ⟨b, c, none⟩ = w.cell? ⟨b, c, none⟩)
    (hn : b.row = false → ∀ id ∈ refsFs b.xs, σ'.box (ρ id) = σ.box id) (hb : ∀ g, L.v.ownBlock = some g → w'.heap[g]? = w.heap[g]?) : BoxOK σ' w' B (renBox ρ b) L := by
  obtain ⟨e1, e2, e3, e4, e5, e6, e7⟩ := renBox_eqs ρ b
  obtain ⟨us, r1, r2, r3, r4⟩ := h.reps
  have hr : Reps σ' w' (renBox ρ b).xs us := by
    unfold renBox
    split
    · rename_i hrow; exact r1.bare hfz ((noRefs_iff _).2 (h.fzs hrow))
    · rename_i hrow; exact renFs_reps r1 hfz (hn (by simpa using hrow))
  refine ⟨by rw [e7]; exact h.tot, ⟨us, hr, r2, r3, by rw [e4, e7]; exact ownsRow_block r4 hb⟩, by rw [e3]; exact h.nilp, by rw [e5]; exact h.esz, ?_, ?_⟩
  · intro x hx
    unfold renBox at hx
    split at hx
    · exact h.oks x hx
    · simp only [renFs_map, List.mem_map] at hx
      obtain ⟨y, hy, rfl⟩ := hx
      rw [renF_ok]
      exact h.oks y hy
  · intro hrow x hx
    rw [e2] at hrow
    unfold renBox at hx
    rw [if_pos hrow] at hx
    exact h.fzs hrow x hx

section
variable {B : Nat} {w0 : Start} {σ : Sg} {H : Heap} {w : World} {ids : List Nat}

theorem subH_get (H : Heap) (ids : List Nat) (j : Nat) : (subH H ids)[j]? = (ids[j]?).map fun id => renBox (ids.idxOf ·) ((H[id]?).getD deadBox) := by
  simp [subH]

theorem nodup_get {l : List Nat} (h : l.Nodup) {i j x : Nat} (hi : l[i]? = some x) (hj : l[j]? = some x) : i = j := by
  obtain ⟨h1, e1⟩ := List.getElem?_eq_some_iff.1 hi
  obtain ⟨h2, e2⟩ := List.getElem?_eq_some_iff.1 hj
  exact (List.getElem_inj h).1 (e1.trans e2.symm)

theorem sub_reps {xs : List V} {vs : List Value} (hr : Reps σ w xs vs) (hm : ∀ id ∈ refsFs xs, id ∈ ids) : Reps (σ.ren ids) w (renFs (ids.idxOf ·) xs) vs :=
  renFs_reps hr (fun b c hh => ⟨hh, rfl⟩) fun id hid => ren_box (hm id hid)

/-- A part of the boxes, by itself. -/
theorem sub_ok (h : Inv B w0 σ H w) (hs : SubOK ids H) (w1 : Start) (hbelow : Below B w1.w w) (hold : ∀ b c, σ.fz b c → b < B → w1.fz b c)
    (hk : ∀ b, w1.keep b → b < w.heap.size ∧ w.heap[b]? = w1.w.heap[b]? ∧ (∀ id ∈ ids, ∀ L, σ.box id = some L → L.v.ownBlock ≠ some b) ∧ ∀ c, σ.fz b c → w1.fz b c) : Inv B w1 (σ.ren ids) (subH H ids) w := by
  have hbox : ∀ {j : Nat} {L : Loc}, (σ.ren ids).box j = some L → ∃ id, ids[j]? = some id ∧ σ.box id = some L := by
    intro j L hL
    simp only [Sg.ren] at hL
    cases hj : ids[j]? with
    | none => simp [hj] at hL
    | some id => simp only [hj, Option.bind_some] at hL; exact ⟨id, rfl, hL⟩
  have hget : ∀ {j : Nat} {b' : Box}, (subH H ids)[j]? = some b' → ∃ id b, ids[j]? = some id ∧ H[id]? = some b ∧ b.live = true ∧ (b.row = false → ∀ r ∈ refsFs b.xs, r ∈ ids) ∧ b' = renBox (ids.idxOf ·) b := by
    intro j b' hb
    rw [subH_get] at hb
    cases hj : ids[j]? with
    | none => simp [hj] at hb
    | some id =>
      obtain ⟨b, k1, k2, k3⟩ := hs.at_ id (List.mem_of_getElem? hj)
      simp only [hj, Option.map_some, k1, Option.getD_some, Option.some.injEq] at hb
      exact ⟨id, b, rfl, k1, k2, k3, hb.symm⟩
  refine ⟨hbelow, h.size, ?_, ?_, ?_, h.cells, ?_, ?_, hold, fun b hb => ?_⟩
  · intro j L hL
    obtain ⟨id, h1, h2⟩ := hbox hL
    obtain ⟨b, k1, k2, k3⟩ := hs.at_ id (List.mem_of_getElem? h1)
    refine ⟨renBox (ids.idxOf ·) b, by rw [subH_get, h1]; simp [k1], ?_⟩
    rw [(renBox_eqs _ b).1]; exact k2
  · intro j b' hb hl
    obtain ⟨id, b, h1, h2, h3, h4, rfl⟩ := hget hb
    obtain ⟨L, hL, hok⟩ := h.boxes id b h2 h3
    refine ⟨L, by simp [Sg.ren, h1, hL], hok.ren _ (fun b c hh => ⟨hh, rfl⟩) (fun hr r hh => ren_box (h4 hr r hh)) (fun _ _ => rfl)⟩
  · intro j j' b1 b2 L1 L2 g h1 h2 l1 l2 s1 s2 g1 g2
    obtain ⟨i1, e1, t1⟩ := hbox s1
    obtain ⟨i2, e2, t2⟩ := hbox s2
    obtain ⟨i1', c1, f1, p1, p2, _⟩ := hget h1
    obtain ⟨i2', c2, f2, q1, q2, _⟩ := hget h2
    rw [e1] at f1; cases f1
    rw [e2] at f2; cases f2
    have := h.apart i1 i2 c1 c2 L1 L2 g p1 q1 p2 q2 t1 t2 g1 g2
    subst this
    exact nodup_get hs.nodup e1 e2
  · intro b c hc j b' L hb hl hL hg
    obtain ⟨id, hid, hL'⟩ := hbox hL
    obtain ⟨id', b0, f1, p1, p2, _, rfl⟩ := hget hb
    rw [hid] at f1; cases f1
    rw [(renBox_eqs _ b0).2.2.2.2.2.1]
    exact h.floor b c hc id b0 L p1 p2 hL' hg
  · intro j b' hb hl
    obtain ⟨id, b0, f1, p1, p2, _, rfl⟩ := hget hb
    obtain ⟨_, _, _, _, _, e6, e7⟩ := renBox_eqs (ids.idxOf ·) b0
    rw [e6, e7]
    exact h.low id b0 p1 p2
  · obtain ⟨k1, k2, k3, k4⟩ := hk b hb
    refine ⟨k1, k2, fun j L hL hg => ?_, k4⟩
    obtain ⟨id, hid, hL'⟩ := hbox hL
    exact k3 id (List.mem_of_getElem? hid) L hL' hg

/-! ### the way back -/

def tauN (ids : List Nat) (n i : Nat) : Option Nat := if i < n then (if i ∈ ids then some (ids.idxOf i) else none) else some (ids.length + (i - n))

theorem putB_get : ∀ {ids : List Nat} {H bs : Heap} (i : Nat), ids.Nodup → (∀ id ∈ ids, id < H.length) → ids.length ≤ bs.length →
    (putB H ids bs)[i]? = match tauN ids H.length i with | some j => bs[j]? | none => H[i]? := by
  intro ids
  induction ids with
  | nil =>
    intro H bs i _ _ _
    unfold tauN
    simp only [putB, List.getElem?_append, List.not_mem_nil, if_false, List.length_nil, Nat.zero_add]
    split <;> rfl
  | cons id ids ih =>
    intro H bs i hn hl hb
    cases bs with
    | nil => simp at hb
    | cons b bs =>
      rw [List.nodup_cons] at hn
      rw [putB, ih i hn.2 (fun j hj => by simpa using hl j (by simp [hj])) (by simpa using hb)]
      have hid := hl id (by simp)
      unfold tauN
      simp only [List.length_set, List.mem_cons, List.length_cons]
      by_cases hi : i < H.length
      · simp only [hi, if_true]
        by_cases he : i = id
        · subst he
          simp [hn.1, hid]
        · by_cases hm : i ∈ ids
          · simp only [hm, or_true, if_true]
            have hne : (id == i) = false := by simp only [beq_eq_false_iff_ne]; exact fun e => he e.symm
            simp [List.idxOf_cons, hne]
          · simp only [hm, he, or_self, if_false]
            rw [List.getElem?_set_ne (fun e => he e.symm)]
      · simp only [hi, if_false]
        rw [show ids.length + 1 + (i - H.length) = (ids.length + (i - H.length)) + 1 by omega]
        rfl

theorem putBack_get {H3 : Heap} (i : Nat) (hn : ids.Nodup) (hl : ∀ id ∈ ids, id < H.length) (hb : ids.length ≤ H3.length) :
    (putBack H ids H3)[i]? = match tauN ids H.length i with | some j => (H3[j]?).map (renBox (backN ids H.length)) | none => H[i]? := by
  unfold putBack
  rw [putB_get i hn hl (by simpa using hb)]
  split <;> simp

theorem tau_inj {n i i' j : Nat} (hn : ids.Nodup) (h1 : tauN ids n i = some j) (h2 : tauN ids n i' = some j) : i = i' := by
  unfold tauN at h1 h2
  have key : ∀ {x : Nat}, x ∈ ids → ids.idxOf x < ids.length := fun h => List.idxOf_lt_length_of_mem h
  split at h1 <;> split at h2
  · split at h1 <;> split at h2
    · rename_i m1 m2
      simp only [Option.some.injEq] at h1 h2
      have e1 := idx_get m1
      have e2 := idx_get m2
      rw [h1] at e1; rw [h2] at e2
      rw [e1] at e2
      exact Option.some.inj e2
    · cases h2
    · cases h1
    · cases h1
  · split at h1
    · rename_i m1
      simp only [Option.some.injEq] at h1 h2
      have := key m1
      omega
    · cases h1
  · split at h2
    · rename_i m2
      simp only [Option.some.injEq] at h1 h2
      have := key m2
      omega
    · cases h2
  · simp only [Option.some.injEq] at h1 h2
    omega

theorem tau_back {n : Nat} (hn : ids.Nodup) (hl : ∀ id ∈ ids, id < n) (j : Nat) : tauN ids n (backN ids n j) = some j := by
  unfold backN tauN
  by_cases hj : j < ids.length
  · rw [if_pos hj]
    have hg : ids.getD j 0 = ids[j] := by simp [List.getD, hj]
    rw [hg]
    have hm : ids[j] ∈ ids := List.getElem_mem hj
    rw [if_pos (hl _ hm), if_pos hm]
    congr 1
    exact nodup_get hn (idx_get hm) (List.getElem?_eq_getElem hj)
  · rw [if_neg hj, if_neg (by omega)]
    congr 1
    omega

def Sg.back (σ σ1 : Sg) (ids : List Nat) (n : Nat) : Sg := ⟨fun i => match tauN ids n i with | some j => σ1.box j | none => σ.box i, σ1.fz⟩

theorem back_box {σ1 : Sg} {n : Nat} (hn : ids.Nodup) (hl : ∀ id ∈ ids, id < n) (j : Nat) : (σ.back σ1 ids n).box (backN ids n j) = σ1.box j := by
  simp only [Sg.back, tau_back hn hl]

/-- The blocks of the boxes outside. -/
def outer (σ : Sg) (ids : List Nat) (w0 : Start) (b : Nat) : Prop := w0.keep b ∨ ∃ id L, id ∉ ids ∧ σ.box id = some L ∧ L.v.ownBlock = some b

theorem back_ok {σ1 : Sg} {H3 : Heap} {w' : World} (h : Inv B w0 σ H w) (hs : SubOK ids H) (h1 : Inv B ⟨w, σ.fz, outer σ ids w0⟩ σ1 H3 w') (hE : Ext (σ.ren ids) w σ1 w') (hlen : ids.length ≤ H3.length) :
    Inv B w0 (σ.back σ1 ids H.length) (putBack H ids H3) w' ∧ Ext σ w (σ.back σ1 ids H.length) w' := by
  have hlt : ∀ id ∈ ids, id < H.length := fun id hid => by
    obtain ⟨b, k1, _⟩ := hs.at_ id hid
    exact (List.getElem?_eq_some_iff.1 k1).1
  have hfz : ∀ b c, σ.fz b c → σ1.fz b c ∧ w'.cell? ⟨b, c, none⟩ = w.cell? ⟨b, c, none⟩ := hE.fz
  have e : Ext σ w (σ.back σ1 ids H.length) w' := by
    refine ⟨fun i L hL => ?_, hfz⟩
    have hi := h.dom_lt hL
    simp only [Sg.back]
    by_cases hm : i ∈ ids
    · have ht : tauN ids H.length i = some (ids.idxOf i) := by simp [tauN, hi, hm]
      simp only [ht]
      exact hE.box _ L (by rw [ren_box hm]; exact hL)
    · have ht : tauN ids H.length i = none := by simp [tauN, hi, hm]
      simp only [ht]
      exact ⟨L, hL, rfl, .inl rfl⟩
  have hget : ∀ i, (putBack H ids H3)[i]? = match tauN ids H.length i with | some j => (H3[j]?).map (renBox (backN ids H.length)) | none => H[i]? := fun i => putBack_get i hs.nodup hlt hlen
  have hout : ∀ {i : Nat} {L : Loc} {g : Nat}, tauN ids H.length i = none → σ.box i = some L → L.v.ownBlock = some g → outer σ ids w0 g := by
    intro i L g ht hL hg
    refine .inr ⟨i, L, ?_, hL, hg⟩
    intro hm
    simp [tauN, hlt i hm, hm] at ht
  have hcase : ∀ {i : Nat} {b' : Box}, (putBack H ids H3)[i]? = some b' → (∃ j b, tauN ids H.length i = some j ∧ H3[j]? = some b ∧ b' = renBox (backN ids H.length) b) ∨ (tauN ids H.length i = none ∧ H[i]? = some b') := by
    intro i b' hb
    rw [hget] at hb
    cases ht : tauN ids H.length i with
    | none => rw [ht] at hb; exact .inr ⟨rfl, hb⟩
    | some j =>
      rw [ht] at hb
      simp only [Option.map_eq_some_iff] at hb
      obtain ⟨b, h2, h3⟩ := hb
      exact .inl ⟨j, b, rfl, h2, h3.symm⟩
  refine ⟨⟨h.below.trans h1.below, h1.size, ?_, ?_, ?_, h1.cells, ?_, ?_, fun b c hc hlt' => h.old b c (h1.old b c hc hlt') hlt', fun b hb => ?_⟩, e⟩
  · intro i L hL
    simp only [Sg.back] at hL
    rw [hget]
    cases ht : tauN ids H.length i with
    | none => rw [ht] at hL; exact h.dom i L hL
    | some j =>
      rw [ht] at hL
      obtain ⟨b, k1, k2⟩ := h1.dom j L hL
      exact ⟨renBox (backN ids H.length) b, by simp [k1], by rw [(renBox_eqs _ b).1]; exact k2⟩
  · intro i b' hb hl
    rcases hcase hb with ⟨j, b, ht, hj, rfl⟩ | ⟨ht, hi⟩
    · rw [(renBox_eqs _ b).1] at hl
      obtain ⟨L, hL, hok⟩ := h1.boxes j b hj hl
      refine ⟨L, by simp only [Sg.back, ht]; exact hL, hok.ren _ (fun b c hh => ⟨hh, rfl⟩) (fun _ r _ => back_box hs.nodup hlt r) (fun _ _ => rfl)⟩
    · obtain ⟨L, hL, hok⟩ := h.boxes i b' hi hl
      obtain ⟨us, r1, r2, r3, r4⟩ := hok.reps
      refine ⟨L, by simp only [Sg.back, ht]; exact hL, hok.tot, ⟨us, r1.ext e, r2, r3, ownsRow_block r4 fun g hg => ?_⟩, hok.nilp, hok.esz, hok.oks, hok.fzs⟩
      exact (h1.kept g (hout ht hL hg)).2.1
  · intro i i' b1 b2 L1 L2 g p1 p2 l1 l2 s1 s2 g1 g2
    simp only [Sg.back] at s1 s2
    rcases hcase p1 with ⟨j, c1, t1, q1, rfl⟩ | ⟨t1, q1⟩ <;> rcases hcase p2 with ⟨j', c2, t2, q2, rfl⟩ | ⟨t2, q2⟩
    · rw [t1] at s1; rw [t2] at s2
      rw [(renBox_eqs _ _).1] at l1 l2
      have := h1.apart j j' c1 c2 L1 L2 g q1 q2 l1 l2 s1 s2 g1 g2
      subst this
      exact tau_inj hs.nodup t1 t2
    · rw [t1] at s1; rw [t2] at s2
      exact absurd g1 ((h1.kept g (hout t2 s2 g2)).2.2.1 j L1 s1)
    · rw [t1] at s1; rw [t2] at s2
      exact absurd g2 ((h1.kept g (hout t1 s1 g1)).2.2.1 j' L2 s2)
    · rw [t1] at s1; rw [t2] at s2
      exact h.apart i i' b1 b2 L1 L2 g q1 q2 l1 l2 s1 s2 g1 g2
  · intro b c hc i b' L hb hl hL hg
    simp only [Sg.back] at hL hc
    rcases hcase hb with ⟨j, b0, ht, hj, rfl⟩ | ⟨ht, hi⟩
    · rw [ht] at hL
      rw [(renBox_eqs _ b0).1] at hl
      rw [(renBox_eqs _ b0).2.2.2.2.2.1]
      exact h1.floor b c hc j b0 L hj hl hL hg
    · rw [ht] at hL
      exact h.floor b c ((h1.kept b (hout ht hL hg)).2.2.2 c hc) i b' L hi hl hL hg
  · intro i b' hb hl
    rcases hcase hb with ⟨j, b0, ht, hj, rfl⟩ | ⟨ht, hi⟩
    · obtain ⟨e1, _, _, _, _, e6, e7⟩ := renBox_eqs (backN ids H.length) b0
      rw [e6, e7]
      rw [e1] at hl
      exact h1.low j b0 hj hl
    · exact h.low i b' hi hl
  · obtain ⟨k1, k2, k3, k4⟩ := h.kept b hb
    obtain ⟨m1, m2, m3, m4⟩ := h1.kept b (.inl hb)
    refine ⟨m1, m2.trans k2, fun i L hL hg => ?_, fun c hc => k4 c (m4 c hc)⟩
    simp only [Sg.back] at hL
    cases ht : tauN ids H.length i with
    | none => rw [ht] at hL; exact k3 i L hL hg
    | some j => rw [ht] at hL; exact m3 j L hL hg

end

/-! ### such a call -/

/-- What a call comes to that is given boxes. -/
def HeapFn (P : Program) (E : Env) (f : FuncId) (as : List V) (H0 : Heap) (r : V) (H1 : Heap) : Prop :=
  ∀ (B : Nat) (w0 : Start) (σ : Sg) (w : World) (vs : List Value), Inv B w0 σ H0 w → GlobOK E σ w → Reps σ w as vs →
    Calls P f vs.toArray w fun e w' => ∃ u σ', e = .returned u ∧ Inv B w0 σ' H1 w' ∧ Ext σ w σ' w' ∧ Reps σ' w' [r] [u]

theorem pack_ok {B : Nat} {w0 : Start} {σ : Sg} {H H2 : Heap} {w : World} {fa : List (List Fk)} {fb : List Bf} {k : Nat} {args as : List V} {vs : List Value} {ids : List Nat} (h : Inv B w0 σ H w) (hr : Reps σ w args vs)
    (hp : pack fa fb k args H = some (ids, as, H2)) : SubOK ids H2 ∧ (∀ id ∈ refsFs as, id ∈ ids) ∧ H.length ≤ H2.length ∧ ∃ σ', Inv B w0 σ' H2 w ∧ Ext σ w σ' w ∧ Reps σ' w as vs := by
  unfold pack at hp
  split at hp
  · rename_i as' H1 ha
    split at hp
    · rename_i H2' ids' hh
      simp only [Option.some.injEq, Prod.mk.injEq] at hp
      obtain ⟨rfl, rfl, rfl⟩ := hp
      obtain ⟨k1, σ1, i1, e1, r1⟩ := prepA_ok h hr ha
      obtain ⟨q1, q2, q3, σ2, i2, e2⟩ := packH_ok 1000 i1 hh (by simp) (by simp)
      exact ⟨q3, fun id hid => q2 id (by simp [hid]), Nat.le_trans k1.len q1, σ2, i2, e1.trans e2, r1.ext e2⟩
    · cases hp
  · cases hp

theorem callH_ok {P : Program} {E : Env} {B : Nat} {w0 : Start} {σ : Sg} {H H' : Heap} {w : World} {f : FuncId} {hs : HSpec} {args : List V} {vs : List Value} {x : V} (hh : ∀ as H0 r H1, hs.run as H0 = some (r, H1) → HeapFn P E f as H0 r H1)
    (hc : callH hs args H = some (x, H')) (h : Inv B w0 σ H w) (hg : GlobOK E σ w) (hr : Reps σ w args vs) :
    Calls P f vs.toArray w fun e w' => ∃ u σ', e = .returned u ∧ Inv B w0 σ' H' w' ∧ Ext σ w σ' w' ∧ Reps σ' w' [x] [u] := by
  unfold callH at hc
  split at hc
  · rename_i ids as H2 hp
    split at hc
    · rename_i r H3 hrun
      split at hc
      · rename_i hlen
        simp only [Option.some.injEq, Prod.mk.injEq] at hc
        obtain ⟨rfl, rfl⟩ := hc
        obtain ⟨hs', hm, _, σ1, hI1, hE1, hr1⟩ := pack_ok h hr hp
        have hlt : ∀ id ∈ ids, id < H2.length := fun id hid => by
          obtain ⟨b, k1, _⟩ := hs'.at_ id hid
          exact (List.getElem?_eq_some_iff.1 k1).1
        have hsub : Inv B ⟨w, σ1.fz, outer σ1 ids w0⟩ (σ1.ren ids) (subH H2 ids) w := by
          refine sub_ok hI1 hs' _ (Below.refl _ _) (fun b c hc _ => hc) (fun b hb => ?_)
          rcases hb with hb | ⟨id, L, hid, hL, hgL⟩
          · obtain ⟨k1, k2, k3, k4⟩ := hI1.kept b hb
            exact ⟨k1, rfl, fun id _ L hL => k3 id L hL, fun c hc => hc⟩
          · obtain ⟨bx, m1, m2⟩ := hI1.dom id L hL
            obtain ⟨L', hL', hok⟩ := hI1.boxes id bx m1 m2
            rw [hL] at hL'; cases hL'
            refine ⟨(hok.block_lt hgL).2, rfl, fun i hi L' hL' hg' => ?_, fun c hc => hc⟩
            obtain ⟨bx', n1, n2⟩ := hI1.dom i L' hL'
            have := hI1.apart id i bx bx' L L' b m1 n1 m2 n2 hL hL' hgL hg'
            subst this
            exact hid hi
        have hg1 : GlobOK E (σ1.ren ids) w := (hg.ext hE1).bare (fun b c hh => ⟨hh, rfl⟩)
        refine (hh _ _ _ _ hrun B _ (σ1.ren ids) w vs hsub hg1 (sub_reps hr1 hm)).mono ?_
        rintro e w' ⟨u, σ2, rfl, hI2, hE2, hr2⟩
        obtain ⟨hI3, hE3⟩ := back_ok hI1 hs' hI2 hE2 hlen
        exact ⟨u, _, rfl, hI3, hE1.trans hE3, renF_reps hr2 (fun b c hh => ⟨hh, rfl⟩) (fun id _ => back_box hs'.nodup hlt id)⟩
      · cases hc
    · cases hc
  · cases hc

end Go.Proofs.YtkepnndakhpgoaaGreatDoor.Le

