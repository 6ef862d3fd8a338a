/-
  An evaluator for the model's code over pure values: regions that draw their order.
-/
import Derived.Test.YtcjccaonfgcakaaLe17
namespace Go.Proofs.Ytcjccaonfgcakaa.Le
set_option linter.unusedVariables false
open Go.RowKit (Below)

/-! ### an operation looks at its operands only -/

theorem getD_set_ne' {s : List V} {d t : Nat} (h : d ≠ t) (v u : V) : (s.set d v).getD t u = s.getD t u := by
  simp [List.getD, List.getElem?_set_ne h]

theorem ev_set {E : Env} {s : List V} {d : Option Tmp} {v : V} (x : Operand) (h : ∀ d', d = some d' → x ≠ .tmp d') : ev E (setSlot s d v) x = ev E s x := by
  cases d with
  | none => rfl
  | some d =>
    cases x with
    | tmp t => exact getD_set_ne' (fun e => h d rfl (by rw [e])) v .und
    | _ => rfl

theorem map_ev_congr {E : Env} {s s' : List V} (xs : List Operand) (h : ∀ x ∈ xs, ev E s x = ev E s' x) : xs.map (ev E s) = xs.map (ev E s') := List.map_congr_left h

theorem parts_congr {E : Env} {s s' : List V} (ps : Array (Nat × Operand)) (h : ∀ x ∈ (ps.toList.map (·.2)).toArray, ev E s x = ev E s' x) :
    (ps.toList.map fun (i, x) => (i, ev E s x)) = (ps.toList.map fun (i, x) => (i, ev E s' x)) := List.map_congr_left fun p hp => by
  obtain ⟨i, x⟩ := p
  simp only [h x (by simpa using ⟨i, by simpa using hp⟩)]

theorem opD_congr {call : CallF} {E : Env} {k : Nat} {H : Heap} {s s' : List V} {o : Oper} (h : ∀ x ∈ o.op.operands, ev E s x = ev E s' x) : opD call E k H s o = opD call E k H s' o := by
  obtain ⟨dst, op, type, pos, after, guard⟩ := o
  simp only at h
  cases op <;> simp only [Op.operands] at h <;> simp only [opD]
  case assign x =>
    have hx : ev E s x = ev E s' x := h x (by simp)
    split <;> simp_all
  case build t ps => rw [parts_congr ps h]
  case buildSlice t n ps => rw [parts_congr ps h]
  case makeFunc fn first captured =>
    have h1 : evs E s first = evs E s' first := map_ev_congr _ fun x hx => h x (by simp at hx; simp [hx])
    have h2 : evs E s captured = evs E s' captured := map_ev_congr _ fun x hx => h x (by simp at hx; simp [hx])
    cases fn <;> simp only [h1, h2]
  case call c =>
    have h1 : evs E s c.args = evs E s' c.args := map_ev_congr _ fun x hx => h x (by simp at hx; simp [Call.operands, hx])
    rw [h1]
    cases hc : c.callee with
    | value f => have hf : ev E s f = ev E s' f := h f (by simp [Call.operands, hc]); simp only [hf]
    | builtin b => cases b <;> rfl
    | invoke r n => rfl
  case slice t x lo hi mx =>
    have hx : ev E s x = ev E s' x := h x (by simp)
    have hlo : lo.map (ev E s) = lo.map (ev E s') := by cases lo <;> simp_all
    have hhi : hi.map (ev E s) = hi.map (ev E s') := by cases hi <;> simp_all
    have hmx : mx.map (ev E s) = mx.map (ev E s') := by cases mx <;> simp_all
    rw [hx, hlo, hhi, hmx]
  all_goals (first | rfl | (simp_all; done))

theorem looks_op {ops : Array Oper} {o : Oper} {d : Tmp} (h : d ∉ o.looksAt ops) : ∀ x ∈ o.op.operands, x ≠ .tmp d := fun x hx e => h (by
  subst e
  exact List.mem_append_left _ (List.mem_filterMap.2 ⟨.tmp d, by simpa using hx, rfl⟩))

theorem opD_set {call : CallF} {E : Env} {k : Nat} {H : Heap} {s : List V} {o : Oper} {ops : Array Oper} {d : Option Tmp} {v : V} (h : ∀ d', d = some d' → d' ∉ o.looksAt ops) :
    opD call E k H (setSlot s d v) o = opD call E k H s o :=
  opD_congr fun x hx => ev_set x fun d' hd => looks_op (h d' hd) x hx

theorem refsO_set {E : Env} {s : List V} {o : Oper} {ops : Array Oper} {d : Option Tmp} {v : V} (h : ∀ d', d = some d' → d' ∉ o.looksAt ops) : refsO E (setSlot s d v) o = refsO E s o := by
  unfold refsO
  rw [← List.flatMap_map, ← List.flatMap_map (f := ev E s)]
  congr 1
  exact List.map_congr_left fun x hx => ev_set x fun d' hd => looks_op (h d' hd) x (by simpa using hx)

theorem actD_set {call : CallF} {E : Env} {k : Nat} {H : Heap} {s : List V} {o : Oper} {ops : Array Oper} {d : Option Tmp} {v : V} (h : ∀ d', d = some d' → d' ∉ o.looksAt ops) :
    actD call E ops k o ⟨setSlot s d v, H⟩ = actD call E ops k o ⟨s, H⟩ := by
  unfold actD
  cases hg : o.guard with
  | none => exact opD_set h
  | some jw =>
    obtain ⟨j, want⟩ := jw
    simp only
    cases hd : (ops[j]?).bind (·.dst) with
    | none => rfl
    | some g =>
      have hne : ∀ d', d = some d' → d' ≠ g := fun d' hd' e => h d' hd' (by
        subst e
        exact List.mem_append_right _ (by simp [hg, hd]))
      have : (setSlot s d v).getD g .und = s.getD g .und := by
        cases d with
        | none => rfl
        | some d => exact getD_set_ne' (hne d rfl) v .und
      simp only [this]
      rw [opD_set h]

/-! ### heaps that agree on what an operation names -/

def Box.low (b : Box) : Box := { b with floor := 0 }
def SimAt (R : List Nat) (H H' : Heap) : Prop := ∀ id ∈ R, (H[id]?).map Box.low = (H'[id]?).map Box.low

theorem boxAt_low {H H' : Heap} {id tot : Nat} {b : Box} (h : (H[id]?).map Box.low = (H'[id]?).map Box.low) (hb : boxAt H id tot = some b) : ∃ b', boxAt H' id tot = some b' ∧ b'.low = b.low := by
  unfold boxAt at *
  cases h1 : H[id]? with
  | none => simp [h1] at hb
  | some b0 =>
    simp only [h1] at hb h
    cases h2 : H'[id]? with
    | none => simp [h2] at h
    | some b1 =>
      simp only [h2, Option.map_some, Option.some.injEq] at h
      split at hb
      · rename_i hc
        simp only [Option.some.injEq] at hb
        subst hb
        refine ⟨b1, ?_, h.symm⟩
        have e1 : b1.live = b0.live := (congrArg Box.live h).symm
        have e2 : b1.xs = b0.xs := (congrArg Box.xs h).symm
        simp only [e1, e2, hc, if_true]
      · cases hb

theorem low_eqs {b b' : Box} (h : b'.low = b.low) : b'.row = b.row ∧ b'.nilp = b.nilp ∧ b'.elem = b.elem ∧ b'.esz = b.esz ∧ b'.xs = b.xs :=
  ⟨congrArg (·.row) h, congrArg (·.nilp) h, congrArg (·.elem) h, congrArg (·.esz) h, congrArg (·.xs) h⟩

theorem boxAt_none {H H' : Heap} {id tot : Nat} (h : (H[id]?).map Box.low = (H'[id]?).map Box.low) (hb : boxAt H id tot = none) : boxAt H' id tot = none := by
  cases hb' : boxAt H' id tot with
  | none => rfl
  | some b =>
    obtain ⟨b', h1, _⟩ := boxAt_low h.symm hb'
    rw [hb] at h1
    cases h1

section
variable {H H' : Heap}

theorem frz0_sim {x : V} (h : SimAt (ref1 x) H H') : frz0 H' x = frz0 H x := by
  unfold frz0
  split <;> try rfl
  rename_i id off len tot
  cases hb : boxAt H id tot with
  | none => rw [boxAt_none (h id (by simp [ref1])) hb]
  | some b =>
    obtain ⟨b', h1, h2⟩ := boxAt_low (h id (by simp [ref1])) hb
    obtain ⟨e1, e2, e3, e4, e5⟩ := low_eqs h2
    simp only [h1, e1, e4, e5]

theorem frzL_sim {xs : List V} (h : SimAt (xs.flatMap ref1) H H') : frzL H' xs = frzL H xs := by
  induction xs with
  | nil => rfl
  | cons x xs ih =>
    simp only [frzL]
    rw [frz0_sim (fun i hi => h i (by simp [hi])), ih (fun i hi => h i (by rw [List.flatMap_cons]; exact List.mem_append_right _ hi))]

theorem frz_sim {x : V} (h : SimAt (refsV x) H H') : frz H' x = frz H x := by
  unfold frz
  split
  · rw [frzL_sim (by simpa [refsV] using h)]
  · rename_i hne
    refine frz0_sim (fun i hi => h i ?_)
    cases x <;> simp_all [refsV]

theorem frzAll_sim {xs : List V} (h : SimAt (xs.flatMap refsV) H H') : frzAll H' xs = frzAll H xs := by
  induction xs with
  | nil => rfl
  | cons x xs ih =>
    simp only [frzAll]
    rw [frz_sim (fun i hi => h i (by simp [hi])), ih (fun i hi => h i (by rw [List.flatMap_cons]; exact List.mem_append_right _ hi))]

theorem lenOf_sim {x : V} (h : SimAt (refsV x) H H') : lenOf H' x = lenOf H x := by
  unfold lenOf
  split <;> try rfl
  rename_i id off len tot
  cases hb : boxAt H id tot with
  | none => rw [boxAt_none (h id (by simp [refsV, ref1])) hb]
  | some b =>
    obtain ⟨b', h1, h2⟩ := boxAt_low (h id (by simp [refsV, ref1])) hb
    simp only [h1]

theorem elemsOf_sim {x : V} (h : SimAt (refsV x) H H') : elemsOf H' x = elemsOf H x := by
  unfold elemsOf
  split <;> try rfl
  rename_i id off len tot
  cases hb : boxAt H id tot with
  | none => rw [boxAt_none (h id (by simp [refsV, ref1])) hb]
  | some b =>
    obtain ⟨b', h1, h2⟩ := boxAt_low (h id (by simp [refsV, ref1])) hb
    obtain ⟨e1, e2, e3, e4, e5⟩ := low_eqs h2
    simp only [h1, e1, e5]

theorem eszIs_sim {x : V} {n : Nat} (h : SimAt (refsV x) H H') : eszIs H' x n = eszIs H x n := by
  unfold eszIs
  split <;> try rfl
  rename_i id off len tot
  cases hb : boxAt H id tot with
  | none => rw [boxAt_none (h id (by simp [refsV, ref1])) hb]
  | some b =>
    obtain ⟨b', h1, h2⟩ := boxAt_low (h id (by simp [refsV, ref1])) hb
    obtain ⟨e1, e2, e3, e4, e5⟩ := low_eqs h2
    simp only [h1, e4]

theorem loadD_sim {E : Env} {t : TypeId} {a : V} (h : SimAt (refsV a) H H') : loadD E H' t a = loadD E H t a := by
  unfold loadD
  split
  · rfl
  · split <;> try rfl
    rename_i id j off tot
    cases hb : boxAt H id tot with
    | none => rw [boxAt_none (h id (by simp [refsV, ref1])) hb]
    | some b =>
      obtain ⟨b', h1, h2⟩ := boxAt_low (h id (by simp [refsV, ref1])) hb
      obtain ⟨e1, e2, e3, e4, e5⟩ := low_eqs h2
      simp only [h1, e5]

theorem indexAddrD_sim {E : Env} {t : TypeId} {x i : V} (h : SimAt (refsV x) H H') : indexAddrD E H' t x i = indexAddrD E H t x i := by
  unfold indexAddrD
  split <;> try rfl
  split <;> try rfl
  rename_i id off len tot hty
  cases hb : boxAt H id tot with
  | none => rw [boxAt_none (h id (by simp [refsV, ref1])) hb]
  | some b =>
    obtain ⟨b', h1, h2⟩ := boxAt_low (h id (by simp [refsV, ref1])) hb
    obtain ⟨e1, e2, e3, e4, e5⟩ := low_eqs h2
    simp only [h1, e4]

theorem sliceFits_sim {E : Env} {t : TypeId} {x : V} (h : SimAt (refsV x) H H') : sliceFits E H' t x = sliceFits E H t x := by
  unfold sliceFits
  split <;> try rfl
  split <;> try rfl
  split <;> try rfl
  rw [eszIs_sim h]

end

/-! ### what an operation that does not write does to the boxes -/

def eff (ids : List Nat) (nb : Option Box) (k : Nat) (H : Heap) : Heap :=
  match nb with
  | none => bump H ids
  | some b => place (bump H ids) k b

/-- What the pure calls are asked for. -/
def PureOK (E : Env) (call : CallF) : Prop :=
  ∀ f, (E.pure f || (E.env f).isSome) = true → ∀ args H v H1, call f args H = some (v, H1) →
    H1 = bump H (args.flatMap idsA) ∧ ∀ H', SimAt (args.flatMap refsV) H H' → call f args H' = some (v, bump H' (args.flatMap idsA))

theorem ids1_ref {x : V} {i : Nat} (h : i ∈ ids1 x) : i ∈ ref1 x := by
  cases x <;> simp_all [ids1, ref1]
theorem idsA_refs {x : V} {i : Nat} (h : i ∈ idsA x) : i ∈ refsV x := by
  cases x with
  | agg cs =>
    simp only [idsA, refsV, List.mem_flatMap] at *
    obtain ⟨c, hc, hi⟩ := h
    exact ⟨c, hc, ids1_ref hi⟩
  | _ => simp_all [idsA, refsV, ids1, ref1]

theorem idsAs_refs {xs : List V} {i : Nat} (h : i ∈ xs.flatMap idsA) : i ∈ xs.flatMap refsV := by
  simp only [List.mem_flatMap] at *
  obtain ⟨c, hc, hi⟩ := h
  exact ⟨c, hc, idsA_refs hi⟩

theorem map_fix {y : Option V} {H H1 : Heap} {v : V} (h : y.map (·, H) = some (v, H1)) : y = some v ∧ H1 = H := by
  cases y with
  | none => cases h
  | some x => simp at h; exact ⟨by rw [h.1], h.2.symm⟩

/-- How an operation that does not write turns the boxes. -/
def Eff (call : CallF) (E : Env) (k : Nat) (H : Heap) (s : List V) (o : Oper) (v : V) (H1 : Heap) : Prop :=
  ∃ ids nb, (∀ i ∈ ids, i ∈ refsO E s o) ∧ (nb.isSome = true → clsOf E o = .a) ∧ H1 = eff ids nb k H ∧
    ∀ H' k', (clsOf E o = .a → k' = k) → SimAt (refsO E s o) H H' → opD call E k' H' s o = some (v, eff ids nb k' H')

theorem eff_nil (k : Nat) (H : Heap) : eff [] none k H = H := rfl

theorem eff_read {call : CallF} {E : Env} {k : Nat} {H H1 : Heap} {s : List V} {o : Oper} {v : V} {y : Heap → Option V} (he : ∀ H k, opD call E k H s o = (y H).map (·, H))
    (h : opD call E k H s o = some (v, H1)) (hy : ∀ H', SimAt (refsO E s o) H H' → y H' = y H) : Eff call E k H s o v H1 := by
  rw [he] at h
  obtain ⟨h1, h2⟩ := map_fix h
  exact ⟨[], none, by simp, by simp, h2, fun H' k' _ hs => by rw [he, hy H' hs, h1]; rfl⟩

theorem sim_op {E : Env} {s : List V} {o : Oper} {H H' : Heap} (h : SimAt (refsO E s o) H H') {x : Operand} (hx : x ∈ o.op.operands) : SimAt (refsV (ev E s x)) H H' := fun i hi =>
  h i (List.mem_flatMap.2 ⟨x, by simpa using hx, hi⟩)

/-- Slots only. -/
theorem opD_s {call : CallF} {E : Env} {k : Nat} {H H1 : Heap} {s : List V} {o : Oper} {v : V} (hc : clsOf E o = .s) (h : opD call E k H s o = some (v, H1)) :
    H1 = H ∧ ∀ H' k', opD call E k' H' s o = some (v, H') := by
  have key : ∀ y : Option V, (∀ H k, opD call E k H s o = y.map (·, H)) → H1 = H ∧ ∀ H' k', opD call E k' H' s o = some (v, H') := by
    intro y he
    rw [he] at h
    obtain ⟨h1, h2⟩ := map_fix h
    exact ⟨h2, fun H' k' => by rw [he, h1]; rfl⟩
  obtain ⟨dst, op, type, pos, after, guard⟩ := o
  cases op <;> simp only [clsOf] at hc <;> try (cases hc; done)
  case slice t x lo hi mx => cases mx <;> cases hc
  case move x => exact key (some (ev E s x)) (fun H k => rfl)
  case pick c x y =>
    refine key (match ev E s c with | .lit (.bool t) => some (if t then ev E s x else ev E s y) | _ => none) (fun H k => ?_)
    simp only [opD]
    split <;> simp_all
  case build t ps => exact key (buildD E t (ps.toList.map fun (i, x) => (i, ev E s x))) (fun H k => rfl)
  case binOp op t x y z => exact key (binD E op t (ev E s x) (ev E s y)) (fun H k => rfl)
  case unOp op t x => exact key (unD op (ev E s x)) (fun H k => rfl)
  case field t x f => exact key (fieldD E t (ev E s x) f) (fun H k => rfl)
  case fieldAddr t x f => exact key (fieldAddrD E t (ev E s x) f) (fun H k => rfl)
  case index t x i => exact key (indexD E t (ev E s x) (ev E s i)) (fun H k => rfl)
  case nilCheck x =>
    refine key (match isNilV (ev E s x) with | some false => some (ev E s x) | _ => none) (fun H k => ?_)
    simp only [opD]
    split <;> simp_all
  case extract x i =>
    refine key (match ev E s x with | .tup vs => vs[i]? | _ => none) (fun H k => ?_)
    simp only [opD]
    split <;> simp_all
  case makeFunc fn first caps =>
    cases fn with
    | func f => exact key (some (.fn f (evs E s first) (evs E s caps))) (fun H k => rfl)
    | _ => simp [opD] at h
  case assign x =>
    by_cases hx : x = .const (.slice none 0 0)
    · subst hx; cases hc
    · refine key (some (ev E s x)) (fun H k => ?_)
      unfold opD
      split <;> simp_all
  case call c =>
    split at hc
    · cases hc
    · rename_i hcal
      exact key (minmax false (evs E s c.args)) (fun H k => by simp only [opD, hcal]; rfl)
    · rename_i hcal
      exact key (minmax true (evs E s c.args)) (fun H k => by simp only [opD, hcal]; rfl)
    · split at hc <;> cases hc
    · cases hc

theorem convD_heap {E : Env} {H H' : Heap} {src dst : TypeId} {x r : V} (h : convD E H src dst x = some (r, H')) : H' = H := by
  unfold convD at h
  split at h
  · split at h
    · split at h
      · cases h; rfl
      · cases h
    · cases h
  · split at h
    · cases h; rfl
    · cases h
  · split at h
    · split at h
      · split at h
        · split at h
          · cases h; rfl
          · cases h
        · cases h
      · cases h
    · cases h

theorem sliceD_heap {E : Env} {H H' : Heap} {t : TypeId} {x r : V} {lo hi : Option V} (h : sliceD E H t x lo hi none = some (r, H')) : H' = H := by
  unfold sliceD at h
  split at h
  · split at h
    · cases h
    · split at h
      · cases h
      · split at h
        · cases h
        · split at h
          · cases ‹none = some _›
          · split at h <;> cases h <;> rfl
  · cases h

theorem sim_args {E : Env} {s : List V} {o : Oper} {c : Call} (hop : o.op = .call c) {H H' : Heap} (h : SimAt (refsO E s o) H H') : SimAt ((evs E s c.args).flatMap refsV) H H' := by
  intro i hi
  simp only [evs, List.mem_flatMap, List.mem_map] at hi
  obtain ⟨v, ⟨x, hx, rfl⟩, hi⟩ := hi
  refine h i (List.mem_flatMap.2 ⟨x, ?_, hi⟩)
  simp at hx
  simp [hop, Op.operands, Call.operands, hx]

theorem args_refs {E : Env} {s : List V} {o : Oper} {c : Call} (hop : o.op = .call c) {i : Nat} (hi : i ∈ (evs E s c.args).flatMap refsV) : i ∈ refsO E s o := by
  simp only [evs, List.mem_flatMap, List.mem_map] at hi
  obtain ⟨v, ⟨x, hx, rfl⟩, hi⟩ := hi
  refine List.mem_flatMap.2 ⟨x, ?_, hi⟩
  simp at hx
  simp [hop, Op.operands, Call.operands, hx]

theorem parts_refs {E : Env} {s : List V} {o : Oper} {t : TypeId} {n : Nat} {ps : Array (Nat × Operand)} (hop : o.op = .buildSlice t n ps) {i : Nat}
    (hi : i ∈ ((ps.toList.map fun (i, x) => (i, ev E s x)).map (·.2)).flatMap refsV) : i ∈ refsO E s o := by
  simp only [List.map_map, List.mem_flatMap, List.mem_map] at hi
  obtain ⟨v, ⟨p, hp, rfl⟩, hi⟩ := hi
  refine List.mem_flatMap.2 ⟨p.2, ?_, hi⟩
  simp only [hop, Op.operands]
  exact List.mem_map.2 ⟨p, hp, rfl⟩

/-- Whatever does not write. -/
theorem opD_eff {call : CallF} {E : Env} (hpure : PureOK E call) {k : Nat} {H H1 : Heap} {s : List V} {o : Oper} {v : V} (hc : clsOf E o ≠ .w) (h : opD call E k H s o = some (v, H1)) :
    Eff call E k H s o v H1 := by
  by_cases hs : clsOf E o = .s
  · obtain ⟨h1, h2⟩ := opD_s hs h
    exact ⟨[], none, by simp, by simp, h1, fun H' k' _ _ => h2 H' k'⟩
  have mk : ∀ (nb : Option Box), clsOf E o = .a → (nb.isSome = true) → (∀ H k, opD call E k H s o = nb.map fun b => ((if b.row then V.lsl k 0 b.xs.length b.xs.length else V.ptr k 0 0 1), place H k b)) → Eff call E k H s o v H1 := by
    intro nb hca hnb he
    cases nb with
    | none => cases hnb
    | some b =>
      rw [he] at h
      simp only [Option.map_some, Option.some.injEq, Prod.mk.injEq] at h
      obtain ⟨h1, h2⟩ := h
      refine ⟨[], some b, by simp, fun _ => hca, h2.symm, fun H' k' hk _ => ?_⟩
      rw [he, hk hca]
      simp only [Option.map_some, h1]
      rfl
  obtain ⟨dst, op, type, pos, after, guard⟩ := o
  cases op <;> try (refine absurd ?_ hs; simp [clsOf]; done)
  case assign x =>
    by_cases hx : x = .const (.slice none 0 0)
    · subst hx
      cases hti : E.ti type with
      | none => simp [opD, hti] at h
      | some i =>
        obtain ⟨ty, sz, by', z0⟩ := i
        cases ty with
        | slice e => exact mk (some (newBox true false e ((E.size e).getD 0) [])) rfl rfl (fun H k => by simp only [opD, hti, Option.map_some]; rfl)
        | _ => simp [opD, hti] at h
    · refine absurd ?_ hs
      unfold clsOf
      split <;> simp_all
  case alloc t =>
    cases hti : E.ti t with
    | none => simp [opD, hti] at h
    | some i =>
      cases hz : i.zero with
      | none => simp [opD, hti, hz] at h
      | some z =>
        by_cases hcond : z.cells.length = i.size ∧ okV z = true
        · exact mk (some (newBox false false t i.size [z])) rfl rfl (fun H k => by simp only [opD, hti, hz, hcond, and_self, if_true, Option.map_some]; rfl)
        · simp [opD, hti, hz, hcond] at h
  case box t x =>
    cases hti : E.ti t with
    | none => simp [opD, hti] at h
    | some i =>
      by_cases hcond : (ev E s x).cells.length = i.size ∧ okV (ev E s x) = true
      · exact mk (some (newBox false false t i.size [ev E s x])) rfl rfl (fun H k => by simp only [opD, hti, hcond, and_self, if_true, Option.map_some]; rfl)
      · simp [opD, hti, hcond] at h
  case makeSlice t l c =>
    have hlen : ∀ (n : Int) (z : V), (List.replicate n.toNat z).length = n.toNat := fun n z => by simp
    cases hti : E.ti t with
    | none => simp [opD, hti] at h
    | some i =>
      obtain ⟨ty, sz, by', z0⟩ := i
      cases ty with
      | slice e =>
        cases hl : ev E s l with
        | lit lv =>
          cases lv with
          | int k1 n =>
            cases hcv : ev E s c with
            | lit cv =>
              cases cv with
              | int k2 m =>
                cases hei : E.ti e with
                | none => simp [opD, hti, hl, hcv, hei] at h
                | some ei =>
                  cases hz : ei.zero with
                  | none => simp [opD, hti, hl, hcv, hei, hz] at h
                  | some z =>
                    by_cases hcond : 0 ≤ n ∧ n ≤ m ∧ m.toNat * ei.bytes ≤ lim ∧ m ≤ maxLen ∧ 0 < ei.size ∧ z.cells.length = ei.size ∧ okV z = true
                    · refine mk (some (newBox true false e ei.size (List.replicate n.toNat (retype (E.rows e) z)))) rfl rfl (fun H k => ?_)
                      simp only [opD, hti, hl, hcv, hei, hz, Option.map_some]
                      rw [if_pos hcond]
                      simp [newBox]
                    · simp only [opD, hti, hl, hcv, hei, hz] at h
                      rw [if_neg hcond] at h
                      cases h
              | _ => simp [opD, hti, hl, hcv] at h
            | _ => simp [opD, hti, hl, hcv] at h
          | _ => simp [opD, hti, hl] at h
        | _ => simp [opD, hti, hl] at h
      | _ => simp [opD, hti] at h
  case buildSlice t n ps =>
    have he : ∀ H k, opD call E k H s { dst := dst, op := .buildSlice t n ps, type := type, pos := pos, after := after, guard := guard } = buildSliceD E k H t n (ps.toList.map fun (i, x) => (i, ev E s x)) := fun H k => rfl
    have hrefs := fun i => parts_refs (E := E) (s := s) (o := { dst := dst, op := .buildSlice t n ps, type := type, pos := pos, after := after, guard := guard }) rfl (i := i)
    rw [he] at h
    generalize (ps.toList.map fun (i, x) => (i, ev E s x)) = parts at he h hrefs
    unfold buildSliceD at h
    split at h
    · rename_i e sz by' z0 hti
      split at h
      · rename_i ei hei
        split at h
        · rename_i z vs hz hf
          split at h
          · rename_i hcond
            split at h
            · rename_i xs hfe
              simp only [Option.some.injEq, Prod.mk.injEq] at h
              obtain ⟨h1, h2⟩ := h
              refine ⟨(parts.map (fun p : Nat × V => p.2)).flatMap idsA, some (newBox true false e ei.size xs), fun i hi => hrefs i (idsAs_refs hi), fun _ => by simp [clsOf], h2.symm, fun H' k' hk hs => ?_⟩
              have hfr : frzAll H' (parts.map (·.2)) = some vs := by rw [frzAll_sim (fun i hi => hs i (hrefs i hi))]; exact hf
              have hkk : k' = k := hk (by simp [clsOf])
              rw [he, hkk, ← h1]
              simp only [buildSliceD, hti, hei, hz, hfr, hfe]
              rw [if_pos hcond]
              rfl
            · cases h
          · cases h
        · cases h
      · cases h
    · cases h
  case load t x => exact eff_read (y := fun H => loadD E H t (ev E s x)) (fun H k => rfl) h (fun H' hs => loadD_sim (sim_op hs (by simp [Op.operands])))
  case indexAddr t x i => exact eff_read (y := fun H => indexAddrD E H t (ev E s x) (ev E s i)) (fun H k => rfl) h (fun H' hs => indexAddrD_sim (sim_op hs (by simp [Op.operands])))
  case convert src dst2 x =>
    have hx : x ∈ (Op.convert src dst2 x).operands := by simp [Op.operands]
    refine eff_read (y := fun H => (convD E H src dst2 (ev E s x)).map (·.1)) (fun H k => ?_) h (fun H' hs => ?_)
    · simp only [opD]
      cases hcv : convD E H src dst2 (ev E s x) with
      | none => rfl
      | some r =>
        obtain ⟨r, H2⟩ := r
        have := convD_heap hcv
        subst this
        rfl
    · have h1 := sim_op hs hx
      simp only [convD]
      generalize ev E s x = ex at h1 ⊢
      split
      · split
        · split <;> rfl
        · rfl
      · split <;> rfl
      · rw [eszIs_sim h1, elemsOf_sim h1]
        split
        · split
          · split
            · split <;> rfl
            · rfl
          · rfl
        · rfl
  case slice t x lo hi mx =>
    cases mx with
    | some m => exact absurd (by simp [clsOf]) hc
    | none =>
      have hx : x ∈ (Op.slice t x lo hi none).operands := by simp [Op.operands]
      refine eff_read (y := fun H => (sliceD E H t (ev E s x) (lo.map (ev E s)) (hi.map (ev E s)) none).map (·.1)) (fun H k => ?_) h (fun H' hs => ?_)
      · simp only [opD, Option.map_none]
        cases hcv : sliceD E H t (ev E s x) (lo.map (ev E s)) (hi.map (ev E s)) none with
        | none => rfl
        | some r =>
          obtain ⟨r, H2⟩ := r
          have := sliceD_heap hcv
          subst this
          rfl
      · have h1 := sim_op hs hx
        generalize ev E s x = ex at h1 ⊢
        simp only [sliceD]
        rw [sliceFits_sim h1, lenOf_sim h1]
        split
        · split
          · rfl
          · split
            · rfl
            · split
              · rfl
              · split <;> rfl
        · rfl
  case call c =>
    cases hcal : c.callee with
    | invoke r n => exact absurd (by simp [clsOf, hcal]) hc
    | builtin b =>
      by_cases hb : b = .len
      · subst hb
        have he : ∀ H k, opD call E k H s { dst := dst, op := .call c, type := type, pos := pos, after := after, guard := guard } = builtinD E k H s .len (evs E s c.args) c.argTypes.toList := fun H k => by simp only [opD, hcal]
        refine eff_read (y := fun H => (builtinD E 0 H s .len (evs E s c.args) c.argTypes.toList).map (·.1)) (fun H k => ?_) h (fun H' hs => ?_)
        · rw [he]
          unfold builtinD
          split <;> try rfl
          · split
            · cases lenOf H _ <;> rfl
            · rfl
          all_goals simp_all
        · have h1 := sim_args rfl hs
          generalize evs E s c.args = xs at h1 ⊢
          simp only [builtinD]
          split <;> try rfl
          · split
            · rw [lenOf_sim (fun i hi => h1 i (by simpa using hi))]
              rename_i x t _ _ _
              cases lenOf H x <;> rfl
            · rfl
          all_goals simp_all
      · exfalso
        revert hc hs
        unfold clsOf
        cases b <;> simp_all
    | value f =>
      cases f with
      | func f =>
        by_cases hp : (E.pure f || (E.env f).isSome) = true
        · have he : ∀ H k, opD call E k H s { dst := dst, op := .call c, type := type, pos := pos, after := after, guard := guard } = call f (evs E s c.args) H := fun H k => by simp [opD, hcal, ev]
          rw [he] at h
          obtain ⟨h1, h2⟩ := hpure f hp _ _ _ _ h
          refine ⟨(evs E s c.args).flatMap idsA, none, fun i hi => args_refs rfl (idsAs_refs hi), by simp, h1, fun H' k' _ hs => ?_⟩
          rw [he]
          exact h2 H' (sim_args rfl hs)
        · exact absurd (by simp [clsOf, hcal, hp]) hc
      | _ => exact absurd (by simp [clsOf, hcal]) hc
  all_goals (refine absurd ?_ hc; simp [clsOf]; done)

end Go.Proofs.Ytcjccaonfgcakaa.Le
