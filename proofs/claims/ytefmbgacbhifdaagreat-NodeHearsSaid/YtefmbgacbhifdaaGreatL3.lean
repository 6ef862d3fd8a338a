/-
  A part of the proof.
-/
import Derived.Test.YtefmbgacbhifdaaGreatL2
import Derived.LoopN
namespace Go.Proofs.YtefmbgacbhifdaaGreat.Le
open Go.RowKit (Below)
theorem getD_set_ne' {s : List V} {d t : Nat} (h : d ≠ t) (v u : V) : (s.set d v).getD t u = s.getD t u := by
 simp [List.getD, List.getElem?_set_ne h]
theorem ZvE {E : Env} {s : List V} {d : Option Tmp} {v : V} (x : Operand) (h : ∀ d', d = some d' -> x ≠ .tmp d') : ev E (setSlot s d v) x = ev E s x := by
 cases d with
 | none => rfl
 | some d =>
  cases x with
  | tmp t => exact getD_set_ne' (fun e => h d rfl (by rw [e])) v .und
  | _ => rfl
theorem ZcC {E : Env} {s s' : List V} (xs : List Operand) (h : ∀ x ∈ xs, ev E s x = ev E s' x) : xs.map (ev E s) = xs.map (ev E s') := List.map_congr_left h
theorem Zl2 {E : Env} {s s' : List V} (ps : Array (Nat × Operand)) (h : ∀ x ∈ (ps.toList.map (·.2)).toArray, ev E s x = ev E s' x) :
  (ps.toList.map fun (i, x) => (i, ev E s x)) = (ps.toList.map fun (i, x) => (i, ev E s' x)) := List.map_congr_left fun p hp => by
 obtain ⟨i, x⟩ := p
 simp only [h x (by simpa using ⟨i, by simpa using hp⟩)]
theorem Zxz {call : Z1Y} {E : Env} {k : Nat} {H : Heap} {s s' : List V} {o : Oper} (h : ∀ x ∈ o.op.operands, ev E s x = ev E s' x) : opD call E k H s o = opD call E k H s' o := by
 obtain ⟨dst, op, type, pos, after, guard⟩ := o
 simp only at h
 cases op <;> simp only [Op.operands] at h <;> simp only [opD]
 case assign x =>
  have hx : ev E s x = ev E s' x := h x (by simp)
  split <;> simp_all
 case build t ps => rw [Zl2 ps h]
 case buildSlice t n ps => rw [Zl2 ps h]
 case makeFunc fn first captured =>
  have h1 : evs E s first = evs E s' first := ZcC _ fun x hx => h x (by simp at hx; simp [hx])
  have h2 : evs E s captured = evs E s' captured := ZcC _ fun x hx => h x (by simp at hx; simp [hx])
  cases fn <;> simp only [h1, h2]
 case call c =>
  have h1 : evs E s c.args = evs E s' c.args := ZcC _ fun x hx => h x (by simp at hx; simp [Call.operands, hx])
  rw [h1]
  cases hc : c.callee with
  | value f => have hf : ev E s f = ev E s' f := h f (by simp [Call.operands, hc]); simp only [hf]
  | builtin b => cases b <;> rfl
  | invoke r n => rfl
 case slice t x lo hi mx =>
  have hx : ev E s x = ev E s' x := h x (by simp)
  have hlo : lo.map (ev E s) = lo.map (ev E s') := by cases lo <;> simp_all
  have hhi : hi.map (ev E s) = hi.map (ev E s') := by cases hi <;> simp_all
  have hmx : mx.map (ev E s) = mx.map (ev E s') := by cases mx <;> simp_all
  rw [hx, hlo, hhi, hmx]
 all_goals (first | rfl | (simp_all; done))
theorem Zon {ops : Array Oper} {o : Oper} {d : Tmp} (h : d ∉ o.looksAt ops) : ∀ x ∈ o.op.operands, x ≠ .tmp d := fun x hx e => h (by
 subst e
 exact List.mem_append_left _ (List.mem_filterMap.2 ⟨.tmp d, by simpa using hx, rfl⟩))
theorem Zxl {call : Z1Y} {E : Env} {k : Nat} {H : Heap} {s : List V} {o : Oper} {ops : Array Oper} {d : Option Tmp} {v : V} (h : ∀ d', d = some d' -> d' ∉ o.looksAt ops) :
  opD call E k H (setSlot s d v) o = opD call E k H s o :=
 Zxz fun x hx => ZvE x fun d' hd => Zon (h d' hd) x hx
theorem Zke {E : Env} {s : List V} {o : Oper} {ops : Array Oper} {d : Option Tmp} {v : V} (h : ∀ d', d = some d' -> d' ∉ o.looksAt ops) : Z2I E (setSlot s d v) o = Z2I E s o := by
 unfold Z2I
 rw [<- List.flatMap_map, <- List.flatMap_map (f := ev E s)]
 congr 1
 exact List.map_congr_left fun x hx => ZvE x fun d' hd => Zon (h d' hd) x (by simpa using hx)
theorem Zte {call : Z1Y} {E : Env} {k : Nat} {H : Heap} {s : List V} {o : Oper} {ops : Array Oper} {d : Option Tmp} {v : V} (h : ∀ d', d = some d' -> d' ∉ o.looksAt ops) :
  Zio call E ops k o ⟨setSlot s d v, H⟩ = Zio call E ops k o ⟨s, H⟩ := by
 unfold Zio
 cases hg : o.guard with
 | none => exact Zxl h
 | some jw =>
  obtain ⟨j, want⟩ := jw
  simp only
  cases hd : (ops[j]?).bind (·.dst) with
  | none => rfl
  | some g =>
   have hne : ∀ d', d = some d' -> d' ≠ g := fun d' hd' e => h d' hd' (by
    subst e
    exact List.mem_append_right _ (by simp [hg, hd]))
   have : (setSlot s d v).getD g .und = s.getD g .und := by
    cases d with
    | none => rfl
    | some d => exact getD_set_ne' (hne d rfl) v .und
   simp only [this]
   rw [Zxl h]
def Box.low (b : Box) : Box := { b with floor := 0 }
def Z1y (R : List Nat) (H H' : Heap) : Prop := ∀ id ∈ R, (H[id]?).map Box.low = (H'[id]?).map Box.low
theorem Z5I {H H' : Heap} {id tot : Nat} {b : Box} (h : (H[id]?).map Box.low = (H'[id]?).map Box.low) (hb : Z1L H id tot = some b) : ∃ b', Z1L H' id tot = some b' /\ b'.low = b.low := by
 unfold Z1L at *
 cases h1 : H[id]? with
 | none => simp [h1] at hb
 | some b0 =>
  simp only [h1] at hb h
  cases h2 : H'[id]? with
  | none => simp [h2] at h
  | some b1 =>
   simp only [h2, Option.map_some, Option.some.injEq] at h
   split at hb
   ·rename_i hc
    simp only [Option.some.injEq] at hb
    subst hb
    refine ⟨b1, ?_, h.symm⟩
    have e1 : b1.live = b0.live := (congrArg Box.live h).symm
    have e2 : b1.xs = b0.xs := (congrArg Box.xs h).symm
    simp only [e1, e2, hc, if_true]
   ·cases hb
theorem Zfs {b b' : Box} (h : b'.low = b.low) : b'.row = b.row /\ b'.Zco = b.Zco /\ b'.elem = b.elem /\ b'.esz = b.esz /\ b'.xs = b.xs :=
 ⟨congrArg (·.row) h, congrArg (·.Zco) h, congrArg (·.elem) h, congrArg (·.esz) h, congrArg (·.xs) h⟩
theorem Z6x {H H' : Heap} {id tot : Nat} (h : (H[id]?).map Box.low = (H'[id]?).map Box.low) (hb : Z1L H id tot = none) : Z1L H' id tot = none := by
 cases hb' : Z1L H' id tot with
 | none => rfl
 | some b =>
  obtain ⟨b', h1, _⟩ := Z5I h.symm hb'
  rw [hb] at h1
  cases h1
section
variable {H H' : Heap}
theorem Zof {x : V} (h : Z1y (Zcn x) H H') : Zn8 H' x = Zn8 H x := by
 unfold Zn8
 split <;> try rfl
 rename_i id off len tot
 cases hb : Z1L H id tot with
 | none => rw [Z6x (h id (by simp [Zcn])) hb]
 | some b =>
  obtain ⟨b', h1, h2⟩ := Z5I (h id (by simp [Zcn])) hb
  obtain ⟨e1, e2, e3, e4, e5⟩ := Zfs h2
  simp only [h1, e1, e4, e5]
theorem Zyu {xs : List V} (h : Z1y (xs.flatMap Zcn) H H') : ZrA H' xs = ZrA H xs := by
 induction xs with
 | nil => rfl
 | cons x xs ih =>
  simp only [ZrA]
  rw [Zof (fun i hi => h i (by simp [hi])), ih (fun i hi => h i (by rw [List.flatMap_cons]; exact List.mem_append_right _ hi))]
theorem ZwQ {x : V} (h : Z1y (Z1j x) H H') : frz H' x = frz H x := by
 unfold frz
 split
 ·rw [Zyu (by simpa [Z1j] using h)]
 ·rename_i hne
  refine Zof (fun i hi => h i ?_)
  cases x <;> simp_all [Z1j]
theorem Ziu {xs : List V} (h : Z1y (xs.flatMap Z1j) H H') : Z2q H' xs = Z2q H xs := by
 induction xs with
 | nil => rfl
 | cons x xs ih =>
  simp only [Z2q]
  rw [ZwQ (fun i hi => h i (by simp [hi])), ih (fun i hi => h i (by rw [List.flatMap_cons]; exact List.mem_append_right _ hi))]
theorem Zq4 {x : V} (h : Z1y (Z1j x) H H') : lenOf H' x = lenOf H x := by
 unfold lenOf
 split <;> try rfl
 rename_i id off len tot
 cases hb : Z1L H id tot with
 | none => rw [Z6x (h id (by simp [Z1j, Zcn])) hb]
 | some b =>
  obtain ⟨b', h1, h2⟩ := Z5I (h id (by simp [Z1j, Zcn])) hb
  simp only [h1]
theorem Zks {x : V} (h : Z1y (Z1j x) H H') : elemsOf H' x = elemsOf H x := by
 unfold elemsOf
 split <;> try rfl
 rename_i id off len tot
 cases hb : Z1L H id tot with
 | none => rw [Z6x (h id (by simp [Z1j, Zcn])) hb]
 | some b =>
  obtain ⟨b', h1, h2⟩ := Z5I (h id (by simp [Z1j, Zcn])) hb
  obtain ⟨e1, e2, e3, e4, e5⟩ := Zfs h2
  simp only [h1, e1, e5]
theorem ZlB {x : V} {n : Nat} (h : Z1y (Z1j x) H H') : Z3w H' x n = Z3w H x n := by
 unfold Z3w
 split <;> try rfl
 rename_i id off len tot
 cases hb : Z1L H id tot with
 | none => rw [Z6x (h id (by simp [Z1j, Zcn])) hb]
 | some b =>
  obtain ⟨b', h1, h2⟩ := Z5I (h id (by simp [Z1j, Zcn])) hb
  obtain ⟨e1, e2, e3, e4, e5⟩ := Zfs h2
  simp only [h1, e4]
theorem ZvR {E : Env} {t : TypeId} {a : V} (h : Z1y (Z1j a) H H') : Zji E H' t a = Zji E H t a := by
 unfold Zji
 split
 ·rfl
 ·split <;> try rfl
  rename_i id j off tot
  cases hb : Z1L H id tot with
  | none => rw [Z6x (h id (by simp [Z1j, Zcn])) hb]
  | some b =>
   obtain ⟨b', h1, h2⟩ := Z5I (h id (by simp [Z1j, Zcn])) hb
   obtain ⟨e1, e2, e3, e4, e5⟩ := Zfs h2
   simp only [h1, e5]
theorem ZmQ {E : Env} {t : TypeId} {x i : V} (h : Z1y (Z1j x) H H') : Z4c E H' t x i = Z4c E H t x i := by
 unfold Z4c
 split <;> try rfl
 split <;> try rfl
 rename_i id off len tot hty
 cases hb : Z1L H id tot with
 | none => rw [Z6x (h id (by simp [Z1j, Zcn])) hb]
 | some b =>
  obtain ⟨b', h1, h2⟩ := Z5I (h id (by simp [Z1j, Zcn])) hb
  obtain ⟨e1, e2, e3, e4, e5⟩ := Zfs h2
  simp only [h1, e4]
theorem Zpg {E : Env} {t : TypeId} {x : V} (h : Z1y (Z1j x) H H') : Z7h E H' t x = Z7h E H t x := by
 unfold Z7h
 split <;> try rfl
 split <;> try rfl
 split <;> try rfl
 rw [ZlB h]
end
def eff (ids : List Nat) (nb : Option Box) (k : Nat) (H : Heap) : Heap :=
 match nb with
 | none => bump H ids
 | some b => place (bump H ids) k b
def Ztb (E : Env) (call : Z1Y) : Prop :=
 ∀ f, ((E.pure f || (E.env f).isSome) && (E.own f).isNone) = true -> ∀ args H v H1, call f args H = some (v, H1) ->
  H1 = bump H (args.flatMap Z8b) /\ ∀ H', Z1y (args.flatMap Z1j) H H' -> call f args H' = some (v, bump H' (args.flatMap Z8b))
def Ztq (E : Env) (call : Z1Y) : Prop :=
 ∀ f, ZoO E f = true -> ∀ args H v H1, call f args H = some (v, H1) ->
  ∃ ids nbs, (∀ i ∈ ids, i ∈ args.flatMap Z1j) /\ H1 = bump H ids ++ nbs /\ ∀ H', H'.length = H.length -> Z1y (args.flatMap Z1j) H H' -> call f args H' = some (v, bump H' ids ++ nbs)
structure Z9V (E : Env) (call : Z1Y) : Prop where
 pure : Ztb E call
 free : Ztq E call
theorem Ztg {x : V} {i : Nat} (h : i ∈ Zew x) : i ∈ Zcn x := by
 cases x <;> simp_all [Zew, Zcn]
theorem ZwX {x : V} {i : Nat} (h : i ∈ Z8b x) : i ∈ Z1j x := by
 cases x with
 | agg cs =>
  simp only [Z8b, Z1j, List.mem_flatMap] at *
  obtain ⟨c, hc, hi⟩ := h
  exact ⟨c, hc, Ztg hi⟩
 | _ => simp_all [Z8b, Z1j, Zew, Zcn]
theorem Znn {xs : List V} {i : Nat} (h : i ∈ xs.flatMap Z8b) : i ∈ xs.flatMap Z1j := by
 simp only [List.mem_flatMap] at *
 obtain ⟨c, hc, hi⟩ := h
 exact ⟨c, hc, ZwX hi⟩
theorem Zwm {y : Option V} {H H1 : Heap} {v : V} (h : y.map (·, H) = some (v, H1)) : y = some v /\ H1 = H := by
 cases y with
 | none => cases h
 | some x => simp at h; exact ⟨by rw [h.1], h.2.symm⟩
def Eff (call : Z1Y) (E : Env) (k : Nat) (H : Heap) (s : List V) (o : Oper) (v : V) (H1 : Heap) : Prop :=
 ∃ ids nb, (∀ i ∈ ids, i ∈ Z2I E s o) /\ (nb.isSome = true -> Z0a E o = .a) /\ H1 = eff ids nb k H /\
  ∀ H' k', (Z0a E o = .a -> k' = k) -> Z1y (Z2I E s o) H H' -> opD call E k' H' s o = some (v, eff ids nb k' H')
theorem Zgw {call : Z1Y} {E : Env} {k : Nat} {H H1 : Heap} {s : List V} {o : Oper} {v : V} {y : Heap -> Option V} (he : ∀ H k, opD call E k H s o = (y H).map (·, H))
  (h : opD call E k H s o = some (v, H1)) (hy : ∀ H', Z1y (Z2I E s o) H H' -> y H' = y H) : Eff call E k H s o v H1 := by
 rw [he] at h
 obtain ⟨h1, h2⟩ := Zwm h
 exact ⟨[], none, by simp, by simp, h2, fun H' k' _ hs => by rw [he, hy H' hs, h1]; rfl⟩
theorem ZqK {E : Env} {s : List V} {o : Oper} {H H' : Heap} (h : Z1y (Z2I E s o) H H') {x : Operand} (hx : x ∈ o.op.operands) : Z1y (Z1j (ev E s x)) H H' := fun i hi =>
 h i (List.mem_flatMap.2 ⟨x, by simpa using hx, hi⟩)
theorem ZAH {call : Z1Y} {E : Env} {k : Nat} {H H1 : Heap} {s : List V} {o : Oper} {v : V} (hc : Z0a E o = .s) (h : opD call E k H s o = some (v, H1)) :
  H1 = H /\ ∀ H' k', opD call E k' H' s o = some (v, H') := by
 have key : ∀ y : Option V, (∀ H k, opD call E k H s o = y.map (·, H)) -> H1 = H /\ ∀ H' k', opD call E k' H' s o = some (v, H') := by
  intro y he
  rw [he] at h
  obtain ⟨h1, h2⟩ := Zwm h
  exact ⟨h2, fun H' k' => by rw [he, h1]; rfl⟩
 obtain ⟨dst, op, type, pos, after, guard⟩ := o
 cases op <;> simp only [Z0a] at hc <;> try (cases hc; done)
 case slice t x lo hi mx => cases mx <;> cases hc
 case convert => split at hc <;> cases hc
 case move x => exact key (some (ev E s x)) (fun H k => rfl)
 case pick c x y =>
  refine key (match ev E s c with | .lit (.bool t) => some (if t then ev E s x else ev E s y) | _ => none) (fun H k => ?_)
  simp only [opD]
  split <;> simp_all
 case build t ps => exact key (ZnI E t (ps.toList.map fun (i, x) => (i, ev E s x))) (fun H k => rfl)
 case binOp op t x y z => exact key (Zvj E op t (ev E s x) (ev E s y)) (fun H k => rfl)
 case unOp op t x => exact key (unD op (ev E s x)) (fun H k => rfl)
 case sliceToArrayPointer t x => exact key (ZBq E t (ev E s x)) (fun H k => rfl)
 case field t x f => exact key (Znj E t (ev E s x) f) (fun H k => rfl)
 case fieldAddr t x f => exact key (Z85 E t (ev E s x) f) (fun H k => rfl)
 case index t x i => exact key (Znb E t (ev E s x) (ev E s i)) (fun H k => rfl)
 case nilCheck x =>
  refine key (match Zkp (ev E s x) with | some false => some (ev E s x) | _ => none) (fun H k => ?_)
  simp only [opD]
  split <;> simp_all
 case extract x i =>
  refine key (match ev E s x with | .tup vs => vs[i]? | _ => none) (fun H k => ?_)
  simp only [opD]
  split <;> simp_all
 case makeFunc fn first caps =>
  cases fn with
  | func f => exact key (some (.fn f (evs E s first) (evs E s caps))) (fun H k => rfl)
  | _ => simp [opD] at h
 case assign x =>
  by_cases hx : x = .const (.slice none 0 0)
  ·subst hx; cases hc
  ·refine key (some (ev E s x)) (fun H k => ?_)
   unfold opD
   split <;> simp_all
 case call c =>
  split at hc
  ·cases hc
  ·rename_i hcal
   exact key (ZgH false (evs E s c.args)) (fun H k => by simp only [opD, hcal]; rfl)
  ·rename_i hcal
   exact key (ZgH true (evs E s c.args)) (fun H k => by simp only [opD, hcal]; rfl)
  ·split at hc
   ·cases hc
   ·split at hc <;> cases hc
  ·cases hc
theorem ZuH {E : Env} {H H' : Heap} {src dst : TypeId} {x r : V} (h : Zcb E H src dst x = some (r, H')) : H' = H := by
 unfold Zcb at h
 split at h
 ·split at h
  ·split at h
   ·cases h; rfl
   ·cases h
  ·cases h
 ·split at h
  ·cases h; rfl
  ·cases h
 ·split at h
  ·split at h
   ·split at h
    ·split at h
     ·cases h; rfl
     ·cases h
    ·cases h
   ·cases h
  ·cases h
theorem ZrK {E : Env} {H H' : Heap} {t : TypeId} {x r : V} {lo hi : Option V} (h : Zcu E H t x lo hi none = some (r, H')) : H' = H := by
 unfold Zcu at h
 split at h
 ·split at h
  ·cases h
  ·split at h
   ·cases h
   ·split at h
    ·cases h
    ·split at h
     ·cases ‹none = some _›
     ·split at h <;> cases h <;> rfl
 ·cases h
theorem Zom {E : Env} {s : List V} {o : Oper} {c : Call} (hop : o.op = .call c) {H H' : Heap} (h : Z1y (Z2I E s o) H H') : Z1y ((evs E s c.args).flatMap Z1j) H H' := by
 intro i hi
 simp only [evs, List.mem_flatMap, List.mem_map] at hi
 obtain ⟨v, ⟨x, hx, rfl⟩, hi⟩ := hi
 refine h i (List.mem_flatMap.2 ⟨x, ?_, hi⟩)
 simp at hx
 simp [hop, Op.operands, Call.operands, hx]
theorem Zqg {E : Env} {s : List V} {o : Oper} {c : Call} (hop : o.op = .call c) {i : Nat} (hi : i ∈ (evs E s c.args).flatMap Z1j) : i ∈ Z2I E s o := by
 simp only [evs, List.mem_flatMap, List.mem_map] at hi
 obtain ⟨v, ⟨x, hx, rfl⟩, hi⟩ := hi
 refine List.mem_flatMap.2 ⟨x, ?_, hi⟩
 simp at hx
 simp [hop, Op.operands, Call.operands, hx]
theorem Zu9 {E : Env} {s : List V} {o : Oper} {t : TypeId} {n : Nat} {ps : Array (Nat × Operand)} (hop : o.op = .buildSlice t n ps) {i : Nat}
  (hi : i ∈ ((ps.toList.map fun (i, x) => (i, ev E s x)).map (·.2)).flatMap Z1j) : i ∈ Z2I E s o := by
 simp only [List.map_map, List.mem_flatMap, List.mem_map] at hi
 obtain ⟨v, ⟨p, hp, rfl⟩, hi⟩ := hi
 refine List.mem_flatMap.2 ⟨p.2, ?_, hi⟩
 simp only [hop, Op.operands]
 exact List.mem_map.2 ⟨p, hp, rfl⟩
theorem Zuq {E : Env} {H H1 : Heap} {n : Nat} {e : TypeId} {x v : V} {lo hi mx : Option V} (h : ZeT E H n e x lo hi mx = some (v, H1)) :
  ∃ ids, (∀ i ∈ ids, i ∈ Z1j x) /\ H1 = bump H ids /\ ∀ H', Z1y (Z1j x) H H' -> ZeT E H' n e x lo hi mx = some (v, bump H' ids) := by
 unfold ZeT at h
 split at h
 ·rename_i id i off tot m' hm'
  cases hb : Z1L H id tot with
  | none => simp [hb] at h
  | some b =>
   simp only [hb] at h
   split at h
   ·rename_i cs hrow hxs
    split at h
    ·rename_i hc
     simp only [Option.some.injEq, Prod.mk.injEq] at h
     obtain ⟨rfl, rfl⟩ := h
     refine ⟨[id], by simp [Z1j, Zcn], rfl, fun H' hs => ?_⟩
     obtain ⟨b', h1, h2⟩ := Z5I (hs id (by simp [Z1j, Zcn])) hb
     obtain ⟨e1, e2, e3, e4, e5⟩ := Zfs h2
     unfold ZeT
     simp only [hm', h1, e1, e5, hrow, hxs]
     rw [if_pos hc]
    ·cases h
   ·cases h
 ·cases h
theorem Zwo {call : Z1Y} {E : Env} (hpure : Ztb E call) {k : Nat} {H H1 : Heap} {s : List V} {o : Oper} {v : V} (hc : Z0a E o ≠ .w) (hcc : Z0a E o ≠ .c) (h : opD call E k H s o = some (v, H1)) :
  Eff call E k H s o v H1 := by
 by_cases hs : Z0a E o = .s
 ·obtain ⟨h1, h2⟩ := ZAH hs h
  exact ⟨[], none, by simp, by simp, h1, fun H' k' _ _ => h2 H' k'⟩
 have mk : ∀ (nb : Option Box), Z0a E o = .a -> (nb.isSome = true) -> (∀ H k, opD call E k H s o = nb.map fun b => ((if b.row then V.lsl k 0 b.xs.length b.xs.length else V.ptr k 0 0 1), place H k b)) -> Eff call E k H s o v H1 := by
  intro nb hca hnb he
  cases nb with
  | none => cases hnb
  | some b =>
   rw [he] at h
   simp only [Option.map_some, Option.some.injEq, Prod.mk.injEq] at h
   obtain ⟨h1, h2⟩ := h
   refine ⟨[], some b, by simp, fun _ => hca, h2.symm, fun H' k' hk _ => ?_⟩
   rw [he, hk hca]
   simp only [Option.map_some, h1]
   rfl
 obtain ⟨dst, op, type, pos, after, guard⟩ := o
 cases op <;> try (refine absurd ?_ hs; simp [Z0a]; done)
 case assign x =>
  by_cases hx : x = .const (.slice none 0 0)
  ·subst hx
   cases hti : E.ti type with
   | none => simp [opD, hti] at h
   | some i =>
    obtain ⟨ty, sz, by', z0⟩ := i
    cases ty with
    | slice e => exact mk (some (ZK true false e ((E.size e).getD 0) [])) rfl rfl (fun H k => by simp only [opD, hti, Option.map_some]; rfl)
    | _ => simp [opD, hti] at h
  ·refine absurd ?_ hs
   unfold Z0a
   split <;> simp_all
 case alloc t =>
  cases hti : E.ti t with
  | none => simp [opD, hti] at h
  | some i =>
   cases hz : i.zero with
   | none => simp [opD, hti, hz] at h
   | some z =>
    by_cases hcond : z.cells.length = i.size /\ okV z = true
    ·exact mk (some (ZK false false t i.size [z])) rfl rfl (fun H k => by simp only [opD, hti, hz, hcond, and_self, if_true, Option.map_some]; rfl)
    ·simp [opD, hti, hz, hcond] at h
 case box t x =>
  cases hti : E.ti t with
  | none => simp [opD, hti] at h
  | some i =>
   by_cases hcond : (ev E s x).cells.length = i.size /\ okV (ev E s x) = true
   ·exact mk (some (ZK false false t i.size [ev E s x])) rfl rfl (fun H k => by simp only [opD, hti, hcond, and_self, if_true, Option.map_some]; rfl)
   ·simp [opD, hti, hcond] at h
 case makeSlice t l c =>
  have hlen : ∀ (n : Int) (z : V), (List.replicate n.toNat z).length = n.toNat := fun n z => by simp
  cases hti : E.ti t with
  | none => simp [opD, hti] at h
  | some i =>
   obtain ⟨ty, sz, by', z0⟩ := i
   cases ty with
   | slice e =>
    cases hl : ev E s l with
    | lit lv =>
     cases lv with
     | int k1 n =>
      cases hcv : ev E s c with
      | lit cv =>
       cases cv with
       | int k2 m =>
        cases hei : E.ti e with
        | none => simp [opD, hti, hl, hcv, hei] at h
        | some ei =>
         cases hz : ei.zero with
         | none => simp [opD, hti, hl, hcv, hei, hz] at h
         | some z =>
          by_cases hcond : 0 <= n /\ n <= m /\ m.toNat * ei.bytes <= lim /\ m <= maxLen /\ 0 < ei.size /\ z.cells.length = ei.size /\ okV z = true
          ·refine mk (some (ZK true false e ei.size (List.replicate n.toNat (Z0Y (E.rows e) z)))) rfl rfl (fun H k => ?_)
           simp only [opD, hti, hl, hcv, hei, hz, Option.map_some]
           rw [if_pos hcond]
           simp [ZK]
          ·simp only [opD, hti, hl, hcv, hei, hz] at h
           rw [if_neg hcond] at h
           cases h
       | _ => simp [opD, hti, hl, hcv] at h
      | _ => simp [opD, hti, hl, hcv] at h
     | _ => simp [opD, hti, hl] at h
    | _ => simp [opD, hti, hl] at h
   | _ => simp [opD, hti] at h
 case buildSlice t n ps =>
  have he : ∀ H k, opD call E k H s { dst := dst, op := .buildSlice t n ps, type := type, pos := pos, after := after, guard := guard } = Z38 E k H t n (ps.toList.map fun (i, x) => (i, ev E s x)) := fun H k => rfl
  have hrefs := fun i => Zu9 (E := E) (s := s) (o := { dst := dst, op := .buildSlice t n ps, type := type, pos := pos, after := after, guard := guard }) rfl (i := i)
  rw [he] at h
  generalize (ps.toList.map fun (i, x) => (i, ev E s x)) = parts at he h hrefs
  unfold Z38 at h
  split at h
  ·rename_i e sz by' z0 hti
   split at h
   ·rename_i ei hei
    split at h
    ·rename_i z vs hz hf
     split at h
     ·rename_i hcond
      split at h
      ·rename_i xs hfe
       simp only [Option.some.injEq, Prod.mk.injEq] at h
       obtain ⟨h1, h2⟩ := h
       refine ⟨(parts.map (fun p : Nat × V => p.2)).flatMap Z8b, some (ZK true false e ei.size xs), fun i hi => hrefs i (Znn hi), fun _ => by simp [Z0a], h2.symm, fun H' k' hk hs => ?_⟩
       have hfr : Z2q H' (parts.map (·.2)) = some vs := by rw [Ziu (fun i hi => hs i (hrefs i hi))]; exact hf
       have hkk : k' = k := hk (by simp [Z0a])
       rw [he, hkk, <- h1]
       simp only [Z38, hti, hei, hz, hfr, hfe]
       rw [if_pos hcond]
       rfl
      ·cases h
     ·cases h
    ·cases h
   ·cases h
  ·cases h
 case load t x => exact Zgw (y := fun H => Zji E H t (ev E s x)) (fun H k => rfl) h (fun H' hs => ZvR (ZqK hs (by simp [Op.operands])))
 case indexAddr t x i => exact Zgw (y := fun H => Z4c E H t (ev E s x) (ev E s i)) (fun H k => rfl) h (fun H' hs => ZmQ (ZqK hs (by simp [Op.operands])))
 case convert src dst2 x =>
  have hx : x ∈ (Op.convert src dst2 x).operands := by simp [Op.operands]
  by_cases hb : (E.isStr src && E.isBytes dst2) = true
  ·have hca : Z0a E { dst := dst, op := .convert src dst2 x, type := type, pos := pos, after := after, guard := guard } = .a := by simp only [Z0a]; rw [if_pos hb]
   have he : ∀ H k, opD call E k H s { dst := dst, op := .convert src dst2 x, type := type, pos := pos, after := after, guard := guard } = ZjI E k H dst2 (ev E s x) := fun H k => by simp only [opD]; rw [if_pos hb]
   cases hev : ev E s x with
   | lit v =>
    cases v with
    | string st =>
     cases hti : E.ti dst2 with
     | none => rw [he, hev] at h; simp [ZjI, hti] at h
     | some i =>
      obtain ⟨ty, sz, by', z0⟩ := i
      cases ty with
      | slice e =>
       by_cases h1 : E.size e = some 1
       ·exact mk (some (ZK true false e 1 (bytesV st))) hca rfl (fun H k => by rw [he, hev]; simp only [ZjI, hti, h1, if_true, Option.map_some]; rw [show (ZK true false e 1 (bytesV st)).xs.length = st.size from by simp only [ZK, bytesV, List.length_map]; exact Array.length_toList]; rfl)
       ·rw [he, hev] at h; simp [ZjI, hti, h1] at h
      | _ => rw [he, hev] at h; simp [ZjI, hti] at h
    | _ => rw [he, hev] at h; simp [ZjI] at h
   | _ => rw [he, hev] at h; simp [ZjI] at h
  have hcv0 : ∀ H k, opD call E k H s { dst := dst, op := .convert src dst2 x, type := type, pos := pos, after := after, guard := guard } = Zcb E H src dst2 (ev E s x) := fun H k => by simp only [opD]; rw [if_neg hb]
  refine Zgw (y := fun H => (Zcb E H src dst2 (ev E s x)).map (·.1)) (fun H k => ?_) h (fun H' hs => ?_)
  ·rw [hcv0]
   cases hcv : Zcb E H src dst2 (ev E s x) with
   | none => rfl
   | some r =>
    obtain ⟨r, H2⟩ := r
    have := ZuH hcv
    subst this
    rfl
  ·have h1 := ZqK hs hx
   simp only [Zcb]
   generalize ev E s x = ex at h1 ⊢
   split
   ·split
    ·split <;> rfl
    ·rfl
   ·split <;> rfl
   ·rw [ZlB h1, Zks h1]
    split
    ·split
     ·split
      ·split <;> rfl
      ·rfl
     ·rfl
    ·rfl
 case slice t x lo hi mx =>
  cases mx with
  | some m => exact absurd (by simp [Z0a]) hc
  | none =>
   have hx : x ∈ (Op.slice t x lo hi none).operands := by simp [Op.operands]
   by_cases harr : ∃ n e sz by' z0, E.ti t = some ⟨.array n e, sz, by', z0⟩
   ·obtain ⟨n, e, sz, by', z0, hti⟩ := harr
    have he : ∀ H k, opD call E k H s { dst := dst, op := .slice t x lo hi none, type := type, pos := pos, after := after, guard := guard } = ZeT E H n e (ev E s x) (lo.map (ev E s)) (hi.map (ev E s)) none := fun H k => by simp only [opD, hti]; rfl
    rw [he] at h
    obtain ⟨ids, g1, g2, g3⟩ := Zuq h
    exact ⟨ids, none, fun i hi => List.mem_flatMap.2 ⟨x, by simpa using hx, g1 i hi⟩, by simp, g2, fun H' k' _ hs => by rw [he]; exact g3 H' (ZqK hs hx)⟩
   have hnd : ∀ H k, opD call E k H s { dst := dst, op := .slice t x lo hi none, type := type, pos := pos, after := after, guard := guard } = Zcu E H t (ev E s x) (lo.map (ev E s)) (hi.map (ev E s)) none := fun H k => by
    simp only [opD]
    split
    ·rename_i n e sz by' z0 hti
     exact absurd ⟨n, e, sz, by', z0, hti⟩ harr
    ·rfl
   refine Zgw (y := fun H => (Zcu E H t (ev E s x) (lo.map (ev E s)) (hi.map (ev E s)) none).map (·.1)) (fun H k => ?_) h (fun H' hs => ?_)
   ·rw [hnd]
    cases hcv : Zcu E H t (ev E s x) (lo.map (ev E s)) (hi.map (ev E s)) none with
    | none => rfl
    | some r =>
     obtain ⟨r, H2⟩ := r
     have := ZrK hcv
     subst this
     rfl
   ·have h1 := ZqK hs hx
    generalize ev E s x = ex at h1 ⊢
    simp only [Zcu]
    rw [Zpg h1, Zq4 h1]
    split
    ·split
     ·rfl
     ·split
      ·rfl
      ·split
       ·rfl
       ·split <;> rfl
    ·rfl
 case call c =>
  cases hcal : c.callee with
  | invoke r n => exact absurd (by simp [Z0a, hcal]) hc
  | builtin b =>
   by_cases hb : b = .len
   ·subst hb
    have he : ∀ H k, opD call E k H s { dst := dst, op := .call c, type := type, pos := pos, after := after, guard := guard } = Z82 E k H s .len (evs E s c.args) c.argTypes.toList := fun H k => by simp only [opD, hcal]
    refine Zgw (y := fun H => (Z82 E 0 H s .len (evs E s c.args) c.argTypes.toList).map (·.1)) (fun H k => ?_) h (fun H' hs => ?_)
    ·rw [he]
     unfold Z82
     split <;> try rfl
     ·split
      ·cases lenOf H _ <;> rfl
      ·rfl
     all_goals simp_all
    ·have h1 := Zom rfl hs
     generalize evs E s c.args = xs at h1 ⊢
     simp only [Z82]
     split <;> try rfl
     ·split
      ·rw [Zq4 (fun i hi => h1 i (by simpa using hi))]
       rename_i x t _ _ _
       cases lenOf H x <;> rfl
      ·rfl
     all_goals simp_all
   ·exfalso
    revert hc hs
    unfold Z0a
    cases b <;> simp_all
  | value f =>
   cases f with
   | func f =>
    by_cases hp : ((E.pure f || (E.env f).isSome) && (E.own f).isNone) = true
    ·have he : ∀ H k, opD call E k H s { dst := dst, op := .call c, type := type, pos := pos, after := after, guard := guard } = call f (evs E s c.args) H := fun H k => by simp [opD, hcal, ev]
     rw [he] at h
     obtain ⟨h1, h2⟩ := hpure f hp _ _ _ _ h
     refine ⟨(evs E s c.args).flatMap Z8b, none, fun i hi => Zqg rfl (Znn hi), by simp, h1, fun H' k' _ hs => ?_⟩
     rw [he]
     exact h2 H' (Zom rfl hs)
    ·by_cases hfr : ZoO E f = true
     ·exact absurd (by unfold Z0a; simp only [hcal]; rw [if_neg hp, if_pos hfr]) hcc
     ·exact absurd (by unfold Z0a; simp only [hcal]; rw [if_neg hp, if_neg hfr]) hc
   | _ => exact absurd (by simp [Z0a, hcal]) hc
 all_goals (refine absurd ?_ hc; simp [Z0a]; done)
theorem Ztc {call : Z1Y} {E : Env} (hfree : Ztq E call) {k : Nat} {H H1 : Heap} {s : List V} {o : Oper} {v : V} (hc : Z0a E o = .c) (h : opD call E k H s o = some (v, H1)) :
  ∃ ids nbs, (∀ i ∈ ids, i ∈ Z2I E s o) /\ H1 = bump H ids ++ nbs /\ ∀ H' k', H'.length = H.length -> Z1y (Z2I E s o) H H' -> opD call E k' H' s o = some (v, bump H' ids ++ nbs) := by
 obtain ⟨dst, op, type, pos, after, guard⟩ := o
 cases op <;> simp only [Z0a] at hc <;> first | (cases hc; done) | skip
 case slice t x lo hi mx => cases mx <;> cases hc
 case convert => split at hc <;> cases hc
 case assign x => exfalso; revert hc; split <;> simp_all
 case call c =>
  cases hcal : c.callee with
  | builtin b => exfalso; revert hc; simp only [hcal]; cases b <;> simp
  | invoke r n => exfalso; revert hc; simp [hcal]
  | value f =>
  cases f with
  | tmp _ => exfalso; revert hc; simp [hcal]
  | const _ => exfalso; revert hc; simp [hcal]
  | global _ => exfalso; revert hc; simp [hcal]
  | func f =>
  simp only [hcal] at hc
  split at hc
  ·cases hc
  ·split at hc
   ·rename_i hfr
    have he : ∀ H k, opD call E k H s { dst := dst, op := .call c, type := type, pos := pos, after := after, guard := guard } = call f (evs E s c.args) H := fun H k => by simp [opD, hcal, ev]
    rw [he] at h
    obtain ⟨ids, nbs, h1, h2, h3⟩ := hfree f hfr _ _ _ _ h
    exact ⟨ids, nbs, fun i hi => Zqg rfl (h1 i hi), h2, fun H' k' hl hs => by rw [he]; exact h3 H' hl (Zom rfl hs)⟩
   ·cases hc
end Go.Proofs.YtefmbgacbhifdaaGreat.Le
namespace Go.Proofs.YtefmbgacbhifdaaGreat.Le
def ZaP (ids : List Nat) (i : Nat) (b : Box) : Box := if i ∈ ids then { b with floor := b.xs.length } else b
theorem ZbC {ids : List Nat} {nb : Option Box} {k : Nat} {H : Heap} (hk : nb.isSome = true -> k < H.length) (i : Nat) :
  (eff ids nb k H)[i]? = match nb with | some b => if i = k then some b else (H[i]?).map (ZaP ids i) | none => (H[i]?).map (ZaP ids i) := by
 cases nb with
 | none => simp only [eff]; rw [Z4g]; rfl
 | some b =>
  have hk' : k < (bump H ids).length := by rw [bump_length]; exact hk rfl
  simp only [eff, place]
  rw [if_pos hk', List.getElem?_set]
  by_cases hi : i = k
  ·subst hi; simp [hk']
  ·rw [if_neg (fun e => hi e.symm), if_neg hi, Z4g]; rfl
theorem Z88 {ids : List Nat} {nb : Option Box} {k : Nat} {H : Heap} (hk : nb.isSome = true -> k < H.length) : (eff ids nb k H).length = H.length := by
 cases nb with
 | none => exact bump_length H ids
 | some b =>
  have hk' : k < (bump H ids).length := by rw [bump_length]; exact hk rfl
  simp only [eff, place]
  rw [if_pos hk', List.length_set, bump_length]
theorem ZdP (Zew ids2 : List Nat) (i : Nat) (b : Box) : ZaP Zew i (ZaP ids2 i b) = ZaP ids2 i (ZaP Zew i b) := by
 unfold ZaP
 by_cases h1 : i ∈ Zew <;> by_cases h2 : i ∈ ids2 <;> simp [h1, h2]
theorem ZoF {Zew ids2 : List Nat} {nb1 nb2 : Option Box} {k1 k2 : Nat} {H : Heap} (h1 : nb1.isSome = true -> k1 < H.length /\ k1 ∉ ids2) (h2 : nb2.isSome = true -> k2 < H.length /\ k2 ∉ Zew)
  (hne : nb1.isSome = true -> nb2.isSome = true -> k1 ≠ k2) : eff Zew nb1 k1 (eff ids2 nb2 k2 H) = eff ids2 nb2 k2 (eff Zew nb1 k1 H) := by
 have l1 := Z88 (ids := Zew) (fun h => (h1 h).1)
 have l2 := Z88 (ids := ids2) (fun h => (h2 h).1)
 apply List.ext_getElem?
 intro i
 rw [ZbC (ids := Zew) (H := eff ids2 nb2 k2 H) (fun h => by rw [l2]; exact (h1 h).1), ZbC (ids := ids2) (H := eff Zew nb1 k1 H) (fun h => by rw [l1]; exact (h2 h).1), ZbC (ids := Zew) (H := H) (fun h => (h1 h).1), ZbC (ids := ids2) (H := H) (fun h => (h2 h).1)]
 cases nb1 with
 | none =>
  cases nb2 with
  | none =>
   simp only
   cases H[i]? with
   | none => rfl
   | some b => simp only [Option.map_some, ZdP]
  | some b2 =>
   simp only
   by_cases hi : i = k2
   ·subst hi
    simp only [if_true, Option.map_some]
    simp [ZaP, (h2 rfl).2]
   ·simp only [hi, if_false]
    cases H[i]? with
    | none => rfl
    | some b => simp only [Option.map_some, ZdP]
 | some b1 =>
  cases nb2 with
  | none =>
   simp only
   by_cases hi : i = k1
   ·subst hi
    simp only [if_true, Option.map_some]
    simp [ZaP, (h1 rfl).2]
   ·simp only [hi, if_false]
    cases H[i]? with
    | none => rfl
    | some b => simp only [Option.map_some, ZdP]
  | some b2 =>
   have hkk := hne rfl rfl
   simp only
   by_cases hi : i = k1
   ·subst hi
    rw [if_pos rfl, if_neg hkk, if_pos rfl]
    simp [ZaP, (h1 rfl).2]
   ·by_cases hj : i = k2
    ·subst hj
     rw [if_neg hi, if_pos rfl, if_pos rfl]
     simp [ZaP, (h2 rfl).2]
    ·rw [if_neg hi, if_neg hj, if_neg hj, if_neg hi]
     cases H[i]? with
     | none => rfl
     | some b => simp only [Option.map_some, ZdP]
theorem Zrf (ids : List Nat) (i : Nat) (b : Box) : (ZaP ids i b).low = b.low := by
 unfold ZaP
 split <;> rfl
theorem Zfw {R ids : List Nat} {nb : Option Box} {k : Nat} {H : Heap} (hk : nb.isSome = true -> k < H.length /\ k ∉ R) : Z1y R H (eff ids nb k H) := by
 intro i hi
 rw [ZbC (fun h => (hk h).1)]
 cases nb with
 | none =>
  simp only
  cases H[i]? with
  | none => rfl
  | some b => simp only [Option.map_some, Zrf]
 | some b =>
  have : i ≠ k := fun e => (hk rfl).2 (e ▸ hi)
  simp only [this, if_false]
  cases H[i]? with
  | none => rfl
  | some b => simp only [Option.map_some, Zrf]
theorem Z1y.symm {R : List Nat} {H H' : Heap} (h : Z1y R H H') : Z1y R H' H := fun i hi => (h i hi).symm
theorem Ztu {ids : List Nat} {nb : Option Box} {k j : Nat} {H : Heap} (hk : nb.isSome = true -> k < H.length /\ k ≠ j) : (∃ b, (eff ids nb k H)[j]? = some b /\ b.live = false) ↔ ∃ b, H[j]? = some b /\ b.live = false := by
 rw [ZbC (fun h => (hk h).1)]
 have hm : (∃ b, (H[j]?).map (ZaP ids j) = some b /\ b.live = false) ↔ ∃ b, H[j]? = some b /\ b.live = false := by
  cases H[j]? with
  | none => simp
  | some b =>
   simp only [Option.map_some, Option.some.injEq, exists_eq_left']
   unfold ZaP
   split <;> rfl
 cases nb with
 | none => exact hm
 | some b =>
  have : j ≠ k := fun e => (hk rfl).2 e.symm
  simp only [this, if_false]
  exact hm
section
variable {call : Z1Y} {E : Env} {ops : Array Oper} {ms : List Nat} {lt : List (Nat × (Nat ⊕ Nat))} {s0 : List V} {base m : Nat}
def kOf (E : Env) (o : Oper) (base i : Nat) (H : Heap) : Nat := if Z0a E o = .a then base + i else H.length
def ZgX (E : Env) (ops : Array Oper) (ms : List Nat) (base m i : Nat) (s : List V) (o : Oper) : Prop := ∀ id ∈ Z2I E s o, id < base \/ (base + m <= id /\ ZnV E ops ms i = true) \/ (id < base + m /\ (ms.getD i 0).testBit (id - base) = true)
theorem Zgf {i : Nat} {o : Oper} (ho : ops[i]? = some o) {st st' : St} : Zaj call E ops ms lt s0 base m i st = some st' ↔
  ZgX E ops ms base m i st.s o /\ (Z7Y E ms lt s0 base i st.s st.H o = true /\ (Z0a E o = .c -> base + m <= st.H.length)) /\ (Z0a E o = .a -> ∃ b, st.H[base + i]? = some b /\ b.live = false) /\ ∃ v H', Zio call E ops (kOf E o base i st.H) o st = some (v, H') /\ st' = ⟨setSlot st.s o.dst v, H'⟩ := by
 have hst : ∀ k, Z9n call E ops k i st = some st' ↔ ∃ v H', Zio call E ops k o st = some (v, H') /\ st' = ⟨setSlot st.s o.dst v, H'⟩ := by
  intro k
  unfold Z9n
  simp only [ho]
  cases hact : Zio call E ops k o st with
  | none => simp
  | some r =>
   obtain ⟨v, H'⟩ := r
   simp only [Option.some.injEq, Prod.mk.injEq]
   exact ⟨fun h => ⟨v, H', ⟨rfl, rfl⟩, h.symm⟩, fun ⟨v1, H1, ⟨e1, e2⟩, e3⟩ => by subst e1; subst e2; exact e3.symm⟩
 unfold Zaj
 simp only [ho]
 have hsee : (((Z2I E st.s o).all fun id => decide (id < base) || (decide (base + m <= id) && ZnV E ops ms i) || (decide (id < base + m) && (ms.getD i 0).testBit (id - base))) && (Z7Y E ms lt s0 base i st.s st.H o && (!decide (Z0a E o = .c) || decide (base + m <= st.H.length)))) = true ↔
   ZgX E ops ms base m i st.s o /\ Z7Y E ms lt s0 base i st.s st.H o = true /\ (Z0a E o = .c -> base + m <= st.H.length) := by
  unfold ZgX
  rw [Bool.and_eq_true, Bool.and_eq_true, List.all_eq_true]
  have hc : (!decide (Z0a E o = .c) || decide (base + m <= st.H.length)) = true ↔ (Z0a E o = .c -> base + m <= st.H.length) := by
   by_cases h : Z0a E o = .c <;> simp [h]
  rw [hc]
  simp only [Bool.or_eq_true, Bool.and_eq_true, decide_eq_true_eq, or_assoc]
 by_cases hs : ZgX E ops ms base m i st.s o /\ Z7Y E ms lt s0 base i st.s st.H o = true /\ (Z0a E o = .c -> base + m <= st.H.length)
 ·rw [if_pos (hsee.2 hs)]
  unfold kOf
  by_cases hca : Z0a E o = .a
  ·rw [if_pos hca, if_pos hca]
   cases hb : st.H[base + i]? with
   | none => simp [hca]
   | some b =>
    cases hl : b.live with
    | true => simp [hl, hca]
    | false => simp only [hl, Bool.false_eq_true, if_false, hst]; exact ⟨fun h => ⟨hs.1, hs.2, fun _ => ⟨b, rfl, hl⟩, h⟩, fun h => h.2.2.2⟩
  ·rw [if_neg hca, if_neg hca, hst]
   exact ⟨fun h => ⟨hs.1, hs.2, fun hh => absurd hh hca, h⟩, fun h => h.2.2.2⟩
 ·rw [if_neg (fun h => hs (hsee.1 h))]
  constructor
  ·intro h; cases h
  ·rintro ⟨h1, h2, _⟩; exact absurd ⟨h1, h2⟩ hs
theorem ZfD {o : Oper} {a : Operand} (h : Z7X o = some a) : (∃ t v, o.op = .store t a v) \/ ∃ c x, o.op = .call c /\ c.callee = .builtin .append /\ c.args.toList = [a, x] := by
 unfold Z7X at h
 split at h
 ·rename_i t a' v hop
  cases h
  exact .inl ⟨t, v, hop⟩
 ·rename_i c hop
  split at h
  ·rename_i a' x h1 h2
   cases h
   exact .inr ⟨c, x, hop, h1, h2⟩
  ·cases h
 ·cases h
theorem ZiR {o : Oper} {a : Operand} (h : Z7X o = some a) : a ∈ o.op.operands := by
 rcases ZfD h with ⟨t, v, hop⟩ | ⟨c, x, hop, h1, h2⟩
 ·simp [hop, Op.operands]
 ·have : a ∈ c.args := by
   have : a ∈ c.args.toList := by rw [h2]; simp
   simpa using this
  simp [hop, Op.operands, Call.operands, this]
theorem Zd7 {o : Oper} {t : Nat ⊕ Nat} (h : ZuI E ops o = some t) : Z0a E o = .w /\ o.guard = none /\ ∃ d, Z7X o = some (.tmp d) := by
 unfold ZuI at h
 split at h
 ·rename_i d hg hw
  refine ⟨?_, hg, ⟨d, hw⟩⟩
  rcases ZfD hw with ⟨t, v, hop⟩ | ⟨c, x, hop, h1, h2⟩
  ·unfold Z0a; rw [hop]
  ·unfold Z0a; rw [hop]; simp only [h1]
 ·cases h
theorem ZvQ {x : Nat} {t : Nat ⊕ Nat} (h : (x, t) ∈ Zog E ops) : ∃ ox, ops[x]? = some ox /\ ZuI E ops ox = some t := by
 unfold Zog at h
 simp only [List.mem_filterMap] at h
 obtain ⟨y, _, h⟩ := h
 split at h
 ·rename_i ox hox
  split at h
  ·rename_i t' ht
   split at h
   ·simp only [Option.some.injEq, Prod.mk.injEq] at h
    obtain ⟨rfl, rfl⟩ := h
    exact ⟨ox, hox, ht⟩
   ·cases h
  ·cases h
 ·cases h
theorem Zwe {o : Oper} (h : needs E o = true) : Z0a E o ≠ .w := by
 unfold needs at h
 intro hc
 rw [hc] at h
 cases h
theorem Zu3 {s : List V} {o : Oper} {d : Option Tmp} {v : V} (h : ∀ d', d = some d' -> d' ∉ o.looksAt ops) : addrOf E (setSlot s d v) o = addrOf E s o := by
 unfold addrOf
 split
 ·rename_i a hw
  exact ZvE _ fun d' hd => Zon (h d' hd) a (ZiR hw)
 ·rfl
theorem Zqj {s : List V} {H : Heap} {i : Nat} {o : Oper} {d : Option Tmp} {v : V} (h : ∀ d', d = some d' -> d' ∉ o.looksAt ops) : Z7Y E ms lt s0 base i (setSlot s d v) H o = Z7Y E ms lt s0 base i s H o := by
 unfold Z7Y
 rw [Zu3 h, Zke h]
theorem Z2c {s : List V} {H H' : Heap} {i : Nat} {o : Oper} (h : ∀ t, (i, t) ∉ lt) (hl : Z7Y E ms lt s0 base i s H o = true) : Z7Y E ms lt s0 base i s H' o = true := by
 unfold Z7Y at *
 rw [List.all_eq_true] at *
 intro p hp
 have hh := hl p hp
 have hne : p.1 ≠ i := fun e => h p.2 (by rw [<- e]; exact hp)
 cases ht : Zpm base s0 p.2 with
 | none => rw [ht] at hh; cases hh
 | some k =>
  rw [ht] at hh
  simp only [if_neg hne] at hh ⊢
  exact hh
theorem ZnT {s : List V} {H H' : Heap} {i : Nat} {o : Oper} (h : ∀ p ∈ lt, ∀ k, p.1 = i -> Zpm base s0 p.2 = some k -> H'[k]? = H[k]?) (hl : Z7Y E ms lt s0 base i s H o = true) : Z7Y E ms lt s0 base i s H' o = true := by
 unfold Z7Y at *
 rw [List.all_eq_true] at *
 intro p hp
 have hh := hl p hp
 cases ht : Zpm base s0 p.2 with
 | none => rw [ht] at hh; cases hh
 | some k =>
  rw [ht] at hh
  simp only at hh ⊢
  split
  ·rename_i he
   rw [if_pos he] at hh
   have hk := h p hp k he ht
   unfold Zey at *
   split at hh
   ·rename_i id a b tot haddr
    simp only [Bool.and_eq_true, beq_iff_eq] at hh ⊢
    obtain ⟨rfl, hh⟩ := hh
    refine ⟨rfl, ?_⟩
    unfold Z1L at *
    rw [hk]
    exact hh
   ·rename_i id a b tot haddr
    simp only [Bool.and_eq_true, beq_iff_eq] at hh ⊢
    obtain ⟨rfl, hh⟩ := hh
    refine ⟨rfl, ?_⟩
    rw [hk]
    exact hh
   ·cases hh
  ·rename_i he
   rw [if_neg he] at hh
   exact hh
theorem ZtT {H H1 : Heap} {t : TypeId} {a v : V} {k : Nat} (hl : Zey H a k = true) (h : ZbS E H t a v = some H1) :
  ∃ b, k < H.length /\ H1 = H.set k b /\ ∀ H', H'[k]? = H[k]? -> ZbS E H' t a v = some (H'.set k b) := by
 unfold Zey at hl
 split at hl
 ·rename_i id i off tot
  simp only [Bool.and_eq_true, beq_iff_eq] at hl
  obtain ⟨rfl, hl⟩ := hl
  cases hb : Z1L H id tot with
  | none => rw [hb] at hl; cases hl
  | some b =>
   rw [hb] at hl
   simp only [Bool.not_eq_true'] at hl
   have hlt : id < H.length := by
    unfold Z1L at hb
    cases hh : H[id]? with
    | none => rw [hh] at hb; cases hb
    | some b0 => exact (List.getElem?_eq_some_iff.1 hh).1
   have hb' : ∀ H' : Heap, H'[id]? = H[id]? -> Z1L H' id tot = some b := fun H' he => by
    unfold Z1L at *
    rw [he]
    exact hb
   unfold ZbS at h
   cases hti : E.ti t with
   | none => simp only [hti] at h; cases h
   | some ii =>
    simp only [hti, hb] at h
    cases hx : b.xs[i]? with
    | none => simp only [hx] at h; cases h
    | some x =>
     simp only [hx, hl, Bool.false_eq_true, if_false] at h
     split at h
     ·rename_i hc
      cases hs : Z6g x off v.cells with
      | none => simp only [hs] at h; cases h
      | some x' =>
       simp only [hs] at h
       split at h
       ·rename_i ho
        simp only [Option.some.injEq] at h
        refine ⟨_, hlt, h.symm, fun H' he => ?_⟩
        unfold ZbS
        simp only [hti, hb' H' he, hx, hl, Bool.false_eq_true, if_false, if_pos hc, hs, if_pos ho]
       ·cases h
     ·cases h
 ·unfold ZbS at h
  split at h <;> cases h
 ·cases hl
theorem ZrM {H H1 : Heap} {k0 : Nat} {t u : TypeId} {a x r : V} {k : Nat} (hl : Zey H a k = true) (h : Z8i E k0 H t u a x = some (r, H1)) :
  ∃ b, k < H.length /\ H1 = H.set k b /\ ∀ k' H', H'[k]? = H[k]? -> Z1y (Z1j x) H H' -> Z8i E k' H' t u a x = some (r, H'.set k b) := by
 unfold Zey at hl
 split at hl
 ·unfold Z8i at h
  split at h
  ·split at h
   ·split at h
    ·cases h
    ·cases h
   ·cases h
  ·cases h
 ·rename_i id off len tot
  simp only [Bool.and_eq_true, beq_iff_eq] at hl
  obtain ⟨rfl, hl⟩ := hl
  have hlt : id < H.length := by
   cases hh : H[id]? with
   | none => rw [hh] at hl; cases hl
   | some b0 => exact (List.getElem?_eq_some_iff.1 hh).1
  unfold Z8i at h
  split at h
  ·rename_i e sz by' z0 hti
   split at h
   ·rename_i ei ys hei hut hys
    split at h
    ·rename_i hcond
     simp only at h
     cases hb : Z1L H id tot with
     | none => rw [hb] at h; cases h
     | some b =>
      simp only [hb] at h
      split at h
      ·rename_i hc
       split at h
       ·rename_i hlim
        simp only [Option.some.injEq, Prod.mk.injEq] at h
        obtain ⟨rfl, rfl⟩ := h
        refine ⟨_, hlt, rfl, fun k' H' he hs => ?_⟩
        have hb' : Z1L H' id tot = some b := by
         unfold Z1L at *
         rw [he]
         exact hb
        unfold Z8i
        simp only [hti, hei, hut, Zks hs, hys, ZlB hs]
        rw [if_pos hcond]
        simp only [hb']
        rw [if_pos hc, if_pos hlim]
       ·cases h
      ·cases h
    ·cases h
   ·cases h
  ·cases h
 ·cases hl
theorem ZoL {ids : List Nat} {nb : Option Box} {k k' : Nat} {H : Heap} {b : Box} (hk : nb.isSome = true -> k' < H.length /\ k' ≠ k) (hid : k ∉ ids) : eff ids nb k' (H.set k b) = (eff ids nb k' H).set k b := by
 apply List.ext_getElem?
 intro i
 rw [ZbC (H := H.set k b) (fun h => by rw [List.length_set]; exact (hk h).1), List.getElem?_set, List.getElem?_set, Z88 (fun h => (hk h).1), ZbC (fun h => (hk h).1)]
 by_cases hki : k = i
 ·subst hki
  simp only [if_true]
  cases nb with
  | none =>
   simp only
   split
   ·simp [ZaP, hid]
   ·rfl
  | some b2 =>
   have : ¬ k = k' := fun e => (hk rfl).2 e.symm
   simp only [this, if_false]
   split
   ·simp [ZaP, hid]
   ·rfl
 ·simp only [hki, if_false]
  cases nb <;> rfl
theorem ZzB {ids : List Nat} {nb : Option Box} {k k' : Nat} {H : Heap} (hk : nb.isSome = true -> k' < H.length /\ k' ≠ k) (hid : k ∉ ids) : (eff ids nb k' H)[k]? = H[k]? := by
 rw [ZbC (fun h => (hk h).1)]
 cases nb with
 | none =>
  simp only
  cases H[k]? with
  | none => rfl
  | some b => simp [ZaP, hid]
 | some b2 =>
  have : ¬ k = k' := fun e => (hk rfl).2 e.symm
  simp only [this, if_false]
  cases H[k]? with
  | none => rfl
  | some b => simp [ZaP, hid]
theorem Zqq {k i : Nat} {t : Nat ⊕ Nat} {o : Oper} {s : List V} {H H1 : Heap} {v : V} (ht : ZuI E ops o = some t) (hin : (i, t) ∈ lt) (hl : Z7Y E ms lt s0 base i s H o = true) (h : Zio call E ops k o ⟨s, H⟩ = some (v, H1)) :
  ∃ b n, Zpm base s0 t = some n /\ n ∈ Z2I E s o /\ n < H.length /\ H1 = H.set n b /\ ∀ k' H', H'[n]? = H[n]? -> Z1y (Z2I E s o) H H' -> Zio call E ops k' o ⟨s, H'⟩ = some (v, H'.set n b) := by
 obtain ⟨_, hg, ⟨d, hw⟩⟩ := Zd7 ht
 unfold Z7Y at hl
 rw [List.all_eq_true] at hl
 have hl := hl _ hin
 cases hn : Zpm base s0 t with
 | none => simp only [hn] at hl; cases hl
 | some n =>
  simp only [hn, if_true] at hl
  unfold addrOf at hl
  simp only [hw] at hl
  have haddr : n ∈ Z2I E s o := by
   unfold Z2I
   rw [List.mem_flatMap]
   refine ⟨.tmp d, by simpa using ZiR hw, ?_⟩
   unfold Zey at hl
   split at hl
   ·rename_i he
    simp only [Bool.and_eq_true, beq_iff_eq] at hl
    rw [he, <- hl.1]
    simp [Z1j, Zcn]
   ·rename_i he
    simp only [Bool.and_eq_true, beq_iff_eq] at hl
    rw [he, <- hl.1]
    simp [Z1j, Zcn]
   ·cases hl
  unfold Zio at h ⊢
  simp only [hg] at h ⊢
  rcases ZfD hw with ⟨t', x, hop⟩ | ⟨c, x, hop, hc1, hc2⟩
  ·unfold opD at h ⊢
   simp only [hop] at h ⊢
   cases hst : ZbS E H t' (ev E s (.tmp d)) (ev E s x) with
   | none => rw [hst] at h; cases h
   | some H2 =>
    rw [hst] at h
    simp only [Option.map_some, Option.some.injEq, Prod.mk.injEq] at h
    obtain ⟨rfl, rfl⟩ := h
    obtain ⟨b, h1, h2, h3⟩ := ZtT hl hst
    exact ⟨b, n, rfl, haddr, h1, h2, fun k' H' he _ => by rw [h3 H' he]; rfl⟩
  ·have hargs : evs E s c.args = [ev E s (.tmp d), ev E s x] := by unfold evs; rw [hc2]; rfl
   unfold opD at h ⊢
   simp only [hop, hc1, hargs] at h ⊢
   unfold Z82 at h ⊢
   split at h
   ·rename_i h1 _; cases h1
   ·rename_i a y t' u' hb he1 he2
    simp only [List.cons.injEq, and_true] at he1
    obtain ⟨rfl, rfl⟩ := he1
    obtain ⟨b, h1, h2, h3⟩ := ZrM hl h
    refine ⟨b, n, rfl, haddr, h1, h2, fun k' H' he hs => h3 k' H' he (fun id hid => hs id ?_)⟩
    unfold Z2I
    rw [List.mem_flatMap]
    have : x ∈ c.args := by
     have : x ∈ c.args.toList := by rw [hc2]; simp
     simpa using this
    exact ⟨x, by simp [hop, Op.operands, Call.operands, this], hid⟩
   ·rename_i h1 _ _; cases h1
   ·rename_i h1; cases h1
   ·rename_i h1; cases h1
   ·cases h
theorem Zri {i x n : Nat} {t : Nat ⊕ Nat} {o : Oper} {s : List V} {H : Heap} (hin : (x, t) ∈ lt) (hne : x ≠ i) (hn : needs E o = true) (hbit : (ms.getD i 0).testBit x = false) (hbit' : (ms.getD x 0).testBit i = false) (ht : Zpm base s0 t = some n)
  (hl : Z7Y E ms lt s0 base i s H o = true) : n ∉ Z2I E s o := by
 unfold Z7Y at hl
 rw [List.all_eq_true] at hl
 have hl := hl _ hin
 simp only [ht, if_neg hne, hn, linked, hbit, hbit', Bool.or_self, Bool.not_true, Bool.false_or, Bool.not_eq_true'] at hl
 simpa using hl
theorem ZzN {k : Nat} {o : Oper} {s : List V} {H H1 : Heap} {v : V} (hc : Z0a E o = .s) (h : Zio call E ops k o ⟨s, H⟩ = some (v, H1)) : H1 = H /\ ∀ H' k', Zio call E ops k' o ⟨s, H'⟩ = some (v, H') := by
 unfold Zio at *
 cases hg : o.guard with
 | none => simp only [hg] at h ⊢; exact ZAH hc h
 | some jw =>
  obtain ⟨j, want⟩ := jw
  simp only [hg] at h ⊢
  cases hd : (ops[j]?).bind (·.dst) with
  | none => simp [hd] at h
  | some d =>
   simp only [hd] at h ⊢
   cases hgd : Zer (s.getD d .und) want with
   | none => rw [hgd] at h; cases h
   | some r =>
    rw [hgd] at h
    cases r with
    | true => simp only at h ⊢; exact ZAH hc h
    | false =>
     simp only [Option.some.injEq, Prod.mk.injEq] at h ⊢
     exact ⟨h.2.symm, fun H' k' => ⟨h.1, trivial⟩⟩
theorem ZdO (hpure : Ztb E call) {k : Nat} {o : Oper} {s : List V} {H H1 : Heap} {v : V} (hc : Z0a E o ≠ .w) (hcc : Z0a E o ≠ .c) (h : Zio call E ops k o ⟨s, H⟩ = some (v, H1)) :
  ∃ ids nb, (∀ i ∈ ids, i ∈ Z2I E s o) /\ (nb.isSome = true -> Z0a E o = .a) /\ H1 = eff ids nb k H /\
   ∀ H' k', (Z0a E o = .a -> k' = k) -> Z1y (Z2I E s o) H H' -> Zio call E ops k' o ⟨s, H'⟩ = some (v, eff ids nb k' H') := by
 unfold Zio at *
 cases hg : o.guard with
 | none => simp only [hg] at h ⊢; exact Zwo hpure hc hcc h
 | some jw =>
  obtain ⟨j, want⟩ := jw
  simp only [hg] at h ⊢
  cases hd : (ops[j]?).bind (·.dst) with
  | none => simp [hd] at h
  | some d =>
   simp only [hd] at h ⊢
   cases hgd : Zer (s.getD d .und) want with
   | none => rw [hgd] at h; cases h
   | some r =>
    rw [hgd] at h
    cases r with
    | true => simp only at h ⊢; exact Zwo hpure hc hcc h
    | false =>
     simp only [Option.some.injEq, Prod.mk.injEq] at h ⊢
     exact ⟨[], none, by simp, by simp, h.2.symm, fun H' k' _ _ => ⟨h.1, rfl⟩⟩
theorem Zgg (hfree : Ztq E call) {k : Nat} {o : Oper} {s : List V} {H H1 : Heap} {v : V} (hc : Z0a E o = .c) (h : Zio call E ops k o ⟨s, H⟩ = some (v, H1)) :
  ∃ ids nbs, (∀ i ∈ ids, i ∈ Z2I E s o) /\ H1 = bump H ids ++ nbs /\ ∀ H' k', H'.length = H.length -> Z1y (Z2I E s o) H H' -> Zio call E ops k' o ⟨s, H'⟩ = some (v, bump H' ids ++ nbs) := by
 unfold Zio at *
 cases hg : o.guard with
 | none => simp only [hg] at h ⊢; exact Ztc hfree hc h
 | some jw =>
  obtain ⟨j, want⟩ := jw
  simp only [hg] at h ⊢
  cases hd : (ops[j]?).bind (·.dst) with
  | none => simp [hd] at h
  | some d =>
   simp only [hd] at h ⊢
   cases hgd : Zer (s.getD d .und) want with
   | none => rw [hgd] at h; cases h
   | some r =>
    rw [hgd] at h
    cases r with
    | true => simp only at h ⊢; exact Ztc hfree hc h
    | false =>
     simp only [Option.some.injEq, Prod.mk.injEq] at h ⊢
     exact ⟨[], [], by simp, by rw [List.append_nil]; exact h.2.symm, fun H' k' _ _ => ⟨h.1, by rw [List.append_nil]; rfl⟩⟩
theorem Zl0 {ids : List Nat} {H : Heap} (ys : List Box) (h : ∀ i ∈ ids, i < H.length) : bump (H ++ ys) ids = bump H ids ++ ys := by
 apply List.ext_getElem?
 intro i
 rw [Z4g, List.getElem?_append, List.getElem?_append, bump_length, Z4g]
 by_cases hi : i < H.length
 ·rw [if_pos hi, if_pos hi]
 ·have : i ∉ ids := fun hm => hi (h i hm)
  rw [if_neg hi, if_neg hi]
  cases ys[i - H.length]? with
  | none => rfl
  | some b => simp [this]
theorem Znq {ids : List Nat} {nb : Option Box} {k : Nat} {H : Heap} (ys : List Box) (h : ∀ i ∈ ids, i < H.length) (hk : nb.isSome = true -> k < H.length) : eff ids nb k (H ++ ys) = eff ids nb k H ++ ys := by
 cases nb with
 | none => exact Zl0 ys h
 | some b =>
  have hk := hk rfl
  simp only [eff, place, Zl0 ys h, List.length_append, bump_length]
  rw [if_pos (by omega), if_pos hk, List.set_append_left _ _ (by rw [bump_length]; exact hk)]
theorem ZdQ {R : List Nat} {H H' : Heap} (ys : List Box) (h : Z1y R H H') (hR : ∀ i ∈ R, i < H'.length) : Z1y R H (H' ++ ys) := by
 intro i hi
 rw [List.getElem?_append_left (hR i hi)]
 exact h i hi
theorem Z9t (R ids : List Nat) (H : Heap) : Z1y R H (bump H ids) := by
 have := Zfw (R := R) (ids := ids) (nb := none) (k := 0) (H := H) (fun h => by cases h)
 exact this
theorem Zxq {R : List Nat} {H : Heap} {n : Nat} {b : Box} (h : n ∉ R) : Z1y R H (H.set n b) := by
 intro i hi
 rw [List.getElem?_set_ne (fun e => h (by rw [e]; exact hi))]
theorem Z1y.trans {R : List Nat} {H H' H2 : Heap} (h : Z1y R H H') (k : Z1y R H' H2) : Z1y R H H2 := fun i hi => (h i hi).trans (k i hi)
theorem ZqX {s : List V} {d e : Option Tmp} {v u : V} (h : ∀ x, d = some x -> e ≠ some x) : setSlot (setSlot s d v) e u = setSlot (setSlot s e u) d v := by
 cases d with
 | none => rfl
 | some d =>
  cases e with
  | none => rfl
  | some e =>
   have : d ≠ e := fun hh => h d rfl (by rw [hh])
   simp only [setSlot]
   exact List.set_comm v u this
theorem Zum (hcalls : Z9V E call) (hm : ∀ i o, ops[i]? = some o -> Z0a E o = .a -> i < m) {x y : Nat} {ox oy : Oper} (hx : ops[x]? = some ox) (hy : ops[y]? = some oy) (hxy : x ≠ y)
  (hpass : (ZlT E ops ox oy || (Z5M E ops lt x ox oy || Z5M E ops lt y oy ox)) = true) (hlt : ∀ x t, (x, t) ∈ lt -> ∃ ox, ops[x]? = some ox /\ ZuI E ops ox = some t) (hbit : (ms.getD y 0).testBit x = false) (hbit' : (ms.getD x 0).testBit y = false) {st st1 st2 : St}
  (h1 : Zaj call E ops ms lt s0 base m x st = some st1) (h2 : Zaj call E ops ms lt s0 base m y st1 = some st2) :
  ∃ st1', Zaj call E ops ms lt s0 base m y st = some st1' /\ Zaj call E ops ms lt s0 base m x st1' = some st2 := by
 have hpure := hcalls.pure
 have hfree := hcalls.free
 have hap : ox.apart ops oy = true \/ oy.apart ops ox = true := by
  simp only [Bool.or_eq_true, ZlT, Z5M, Bool.and_eq_true] at hpass
  rcases hpass with h | h | h
  ·exact .inl h.2
  ·exact .inl h.1
  ·exact .inr h.1
 have hsp : (∀ d, ox.dst = some d -> d ∉ oy.looksAt ops) /\ (∀ d, ox.dst = some d -> oy.dst ≠ some d) /\ (∀ d, oy.dst = some d -> d ∉ ox.looksAt ops) := by
  rcases hap with h | h
  ·exact Oper.apart_spec h
  ·obtain ⟨b1, b2, b3⟩ := Oper.apart_spec h
   exact ⟨b3, fun d h1 h2 => b2 d h2 h1, b1⟩
 obtain ⟨a1, a2, a3⟩ := hsp
 obtain ⟨s1, ⟨l1, c1⟩, d1, vx, Hx, e1, rfl⟩ := (Zgf hx).1 h1
 obtain ⟨s2, ⟨l2, c2⟩, d2, vy, Hy, e2, rfl⟩ := (Zgf hy).1 h2
 obtain ⟨s, H⟩ := st
 simp only at *
 rw [Zte a1] at e2
 rw [Zqj a1] at l2
 have s2' : ZgX E ops ms base m y s oy := by unfold ZgX at *; rw [Zke a1] at s2; exact s2
 have s1' : ZgX E ops ms base m x (setSlot s oy.dst vy) ox := by unfold ZgX at *; rw [Zke a3]; exact s1
 have keptx : Z0a E ox = .a -> base + x < H.length := fun hc => by
  obtain ⟨b, hb, _⟩ := d1 hc
  exact (List.getElem?_eq_some_iff.1 hb).1
 have nox : Z0a E ox = .a -> base + x ∉ Z2I E s oy := fun hc hin => by
  rcases s2' _ hin with h | ⟨h, _⟩ | ⟨_, h⟩
  ·omega
  ·have := hm x ox hx hc; omega
  ·rw [show base + x - base = x by omega, hbit] at h; cases h
 have noy : Z0a E oy = .a -> base + y ∉ Z2I E s ox := fun hc hin => by
  rcases s1 _ hin with h | ⟨h, _⟩ | ⟨_, h⟩
  ·omega
  ·have := hm y oy hy hc; omega
  ·rw [show base + y - base = y by omega, hbit'] at h; cases h
 have seex : Z0a E oy = .c -> ∀ id ∈ Z2I E s ox, id < base + m := fun hc id hid => by
  rcases s1 id hid with h | ⟨_, h⟩ | ⟨h, _⟩
  ·omega
  ·exfalso
   unfold ZnV at h
   rw [List.all_eq_true] at h
   have := h y (by simpa using (Array.getElem?_eq_some_iff.1 hy).1)
   simp only [hy, hc, linked, hbit, hbit', decide_true, Bool.not_true, Bool.or_self, Bool.or_false, beq_iff_eq] at this
   exact hxy this.symm
  ·exact h
 have seey : Z0a E ox = .c -> ∀ id ∈ Z2I E s oy, id < base + m := fun hc id hid => by
  rcases s2' id hid with h | ⟨_, h⟩ | ⟨h, _⟩
  ·omega
  ·exfalso
   unfold ZnV at h
   rw [List.all_eq_true] at h
   have := h x (by simpa using (Array.getElem?_eq_some_iff.1 hx).1)
   simp only [hx, hc, linked, hbit, hbit', decide_true, Bool.not_true, Bool.or_self, Bool.or_false, beq_iff_eq] at this
   exact hxy this
  ·exact h
 have fin : ∀ (Hy' : Heap), ZgX E ops ms base m y s oy -> (Z7Y E ms lt s0 base y s H oy = true /\ (Z0a E oy = .c -> base + m <= H.length)) -> (Z0a E oy = .a -> ∃ b, H[base + y]? = some b /\ b.live = false) -> Zio call E ops (kOf E oy base y H) oy ⟨s, H⟩ = some (vy, Hy') ->
   (Z7Y E ms lt s0 base x s Hy' ox = true /\ (Z0a E ox = .c -> base + m <= Hy'.length)) -> (Z0a E ox = .a -> ∃ b, Hy'[base + x]? = some b /\ b.live = false) -> Zio call E ops (kOf E ox base x Hy') ox ⟨s, Hy'⟩ = some (vx, Hy) ->
   ∃ st1', Zaj call E ops ms lt s0 base m y ⟨s, H⟩ = some st1' /\ Zaj call E ops ms lt s0 base m x st1' = some ⟨setSlot (setSlot s ox.dst vx) oy.dst vy, Hy⟩ := by
  intro Hy' g1 l3 g2 g3 l4 g4 g5
  refine ⟨⟨setSlot s oy.dst vy, Hy'⟩, (Zgf hy).2 ⟨g1, l3, g2, vy, Hy', g3, rfl⟩, (Zgf hx).2 ⟨s1', ⟨(by rw [Zqj a3]; exact l4.1), l4.2⟩, g4, vx, Hy, ?_, ?_⟩⟩
  ·rw [Zte a3]; exact g5
  ·rw [ZqX a2]
 have notin : ∀ (z : Nat) (oz : Oper), ops[z]? = some oz -> Z0a E oz ≠ .w -> ∀ t, (z, t) ∉ lt := by
  intro z oz hz hc t hin
  obtain ⟨o', ho', ht'⟩ := hlt z t hin
  rw [hz] at ho'
  cases ho'
  exact hc (Zd7 ht').1
 cases hlx : Z5M E ops lt x ox oy with
 | true =>
  unfold Z5M at hlx
  simp only [Bool.and_eq_true, List.any_eq_true, beq_iff_eq] at hlx
  obtain ⟨_, hny, ⟨x', t⟩, hin, hx'⟩ := hlx
  simp only at hx'
  subst hx'
  obtain ⟨ox', hox', htx⟩ := hlt _ t hin
  rw [hx] at hox'
  cases hox'
  have hnw := Zwe hny
  obtain ⟨b, n, hn, hnin, hnlt, rfl, f3⟩ := Zqq htx hin l1 e1
  have hjy : n ∉ Z2I E s oy := Zri hin hxy hny hbit hbit' hn l2
  have late1 : ∀ Hy' : Heap, Hy'[n]? = H[n]? -> Z7Y E ms lt s0 base x' s Hy' ox = true := fun Hy' hat => by
   refine ZnT (fun p hp k he hk => ?_) l1
   obtain ⟨o', ho', ht'⟩ := hlt p.1 p.2 hp
   rw [he, hx] at ho'
   cases ho'
   rw [htx] at ht'
   cases ht'
   rw [hn] at hk
   cases hk
   exact hat
  have ncx : Z0a E ox = .c -> False := fun hc => by rw [(Zd7 htx).1] at hc; cases hc
  by_cases hyc : Z0a E oy = .c
  ·obtain ⟨idy, nbs, y1, rfl, y4⟩ := Zgg hfree hyc e2
   have hl : base + m <= H.length := by have := c2 hyc; rw [List.length_set] at this; exact this
   have hjid : n ∉ idy := fun h => hjy (y1 _ h)
   have g3 := y4 H (kOf E oy base y H) (by rw [List.length_set]) (Zxq hjy).symm
   have hat : (bump H idy ++ nbs)[n]? = H[n]? := by
    rw [List.getElem?_append_left (by rw [bump_length]; exact hnlt), Z4g]
    cases H[n]? with
    | none => rfl
    | some b => simp [hjid]
   refine fin _ s2' ⟨Z2c (notin y oy hy hnw) l2, fun _ => hl⟩ (fun hc => by rw [hyc] at hc; cases hc) g3 ⟨late1 _ hat, fun hc => (ncx hc).elim⟩ (fun hc => by rw [(Zd7 htx).1] at hc; cases hc) ?_
   rw [f3 _ _ hat (ZdQ nbs (Z9t _ _ _) (fun i hi => by rw [bump_length]; exact Nat.lt_of_lt_of_le (seex hyc i hi) hl))]
   congr 2
   rw [List.set_append_left _ _ (by rw [bump_length]; exact hnlt)]
   congr 1
   have := ZoL (ids := idy) (nb := none) (k' := 0) (H := H) (b := b) (k := n) (fun h => by cases h) hjid
   exact this.symm
  have hne : Z0a E oy = .a -> base + y ≠ n := fun hc e => noy hc (by rw [e]; exact hnin)
  obtain ⟨idy, nby, y1, y2, rfl, y4⟩ := ZdO hpure hnw hyc e2
  have hkH : kOf E oy base y (H.set n b) = kOf E oy base y H := by unfold kOf; rw [List.length_set]
  have deady : Z0a E oy = .a -> ∃ b, H[base + y]? = some b /\ b.live = false := fun hc => by
   obtain ⟨b', hb', hd⟩ := d2 hc
   rw [List.getElem?_set_ne (fun e => hne hc e.symm)] at hb'
   exact ⟨b', hb', hd⟩
  have hyl : nby.isSome = true -> kOf E oy base y H < H.length /\ kOf E oy base y H ≠ n := fun h => by
   have hc := y2 h
   obtain ⟨b', hb', _⟩ := deady hc
   have := (List.getElem?_eq_some_iff.1 hb').1
   unfold kOf
   rw [if_pos hc]
   exact ⟨this, hne hc⟩
  have hjid : n ∉ idy := fun h => hjy (y1 _ h)
  have g3 := y4 H (kOf E oy base y H) (fun hc => by rw [hkH]) (fun i hi => by rw [List.getElem?_set_ne (fun e => hjy (by rw [e]; exact hi))])
  have hat := ZzB (H := H) hyl hjid
  refine fin _ s2' ⟨Z2c (notin y oy hy hnw) l2, fun hc => absurd hc hyc⟩ deady g3 ⟨late1 _ hat, fun hc => (ncx hc).elim⟩ (fun hc => by rw [(Zd7 htx).1] at hc; cases hc) ?_
  rw [f3 _ _ hat (Zfw (fun h => ⟨(hyl h).1, by
    have hk : kOf E oy base y H = base + y := by simp [kOf, y2 h]
    rw [hk]
    exact noy (y2 h)⟩)), hkH, ZoL hyl hjid]
 | false =>
 cases hly : Z5M E ops lt y oy ox with
 | true =>
  unfold Z5M at hly
  simp only [Bool.and_eq_true, List.any_eq_true, beq_iff_eq] at hly
  obtain ⟨_, hnx, ⟨y', t⟩, hin, hy'⟩ := hly
  simp only at hy'
  subst hy'
  obtain ⟨oy', hoy', hty⟩ := hlt _ t hin
  rw [hy] at hoy'
  cases hoy'
  have hnw := Zwe hnx
  obtain ⟨b, n, hn, hnin, hnlt, rfl, f3⟩ := Zqq hty hin l2 e2
  have hjx : n ∉ Z2I E s ox := Zri hin (Ne.symm hxy) hnx hbit' hbit hn l1
  have late2 : Hx[n]? = H[n]? -> Z7Y E ms lt s0 base y' s H oy = true := fun hat => by
   refine ZnT (fun p hp k he hk => ?_) l2
   obtain ⟨o', ho', ht'⟩ := hlt p.1 p.2 hp
   rw [he, hy] at ho'
   cases ho'
   rw [hty] at ht'
   cases ht'
   rw [hn] at hk
   cases hk
   exact hat.symm
  have ncy : Z0a E oy = .c -> False := fun hc => by rw [(Zd7 hty).1] at hc; cases hc
  by_cases hxc : Z0a E ox = .c
  ·obtain ⟨idx, nbs, x1, rfl, x4⟩ := Zgg hfree hxc e1
   have hl : base + m <= H.length := c1 hxc
   have hnl : n < H.length := Nat.lt_of_lt_of_le (seey hxc n hnin) hl
   have hjid : n ∉ idx := fun h => hjx (x1 _ h)
   have hat : (bump H idx ++ nbs)[n]? = H[n]? := by
    rw [List.getElem?_append_left (by rw [bump_length]; exact hnl), Z4g]
    cases H[n]? with
    | none => rfl
    | some b => simp [hjid]
   refine fin _ s2' ⟨late2 hat, fun hc => (ncy hc).elim⟩ (fun hc => by rw [(Zd7 hty).1] at hc; cases hc) (f3 _ H hat.symm (ZdQ nbs (Z9t _ _ _) (fun i hi => by rw [bump_length]; exact Nat.lt_of_lt_of_le (seey hxc i hi) hl)).symm)
    ⟨Z2c (notin x ox hx hnw) l1, fun _ => by rw [List.length_set]; exact hl⟩ (fun hc => by rw [hxc] at hc; cases hc) ?_
   rw [x4 _ _ (by rw [List.length_set]) (Zxq hjx)]
   congr 2
   rw [List.set_append_left _ _ (by rw [bump_length]; exact hnl)]
   congr 1
   have := ZoL (ids := idx) (nb := none) (k' := 0) (H := H) (b := b) (k := n) (fun h => by cases h) hjid
   exact this
  obtain ⟨idx, nbx, x1, x2, rfl, x4⟩ := ZdO hpure hnw hxc e1
  have hne : Z0a E ox = .a -> base + x ≠ n := fun hc e => nox hc (by rw [e]; exact hnin)
  have hxl : nbx.isSome = true -> kOf E ox base x H < H.length /\ kOf E ox base x H ≠ n := fun h => by
   have hc := x2 h
   have := keptx hc
   unfold kOf
   rw [if_pos hc]
   exact ⟨this, hne hc⟩
  have hjid : n ∉ idx := fun h => hjx (x1 _ h)
  have hat := ZzB (H := H) hxl hjid
  have hkS : kOf E ox base x (H.set n b) = kOf E ox base x H := by unfold kOf; rw [List.length_set]
  have hsy : Z1y (Z2I E s oy) (eff idx nbx (kOf E ox base x H) H) H := (Zfw (fun h => ⟨(hxl h).1, by
   have hk : kOf E ox base x H = base + x := by simp [kOf, x2 h]
   rw [hk]
   exact nox (x2 h)⟩)).symm
  refine fin _ s2' ⟨late2 hat, fun hc => (ncy hc).elim⟩ (fun hc => by rw [(Zd7 hty).1] at hc; cases hc) (f3 _ H hat.symm hsy) ⟨Z2c (notin x ox hx hnw) l1, fun hc => absurd hc hxc⟩ (fun hc => ?_) ?_
  ·obtain ⟨b', hb', hd⟩ := d1 hc
   exact ⟨b', by rw [List.getElem?_set_ne (fun e => hne hc e.symm)]; exact hb', hd⟩
  ·rw [x4 _ _ (fun hc => by rw [hkS]) (fun i hi => by rw [List.getElem?_set_ne (fun e => hjx (by rw [e]; exact hi))]), hkS, ZoL hxl hjid]
 | false =>
 rw [hlx, hly, Bool.or_false, Bool.or_false] at hpass
 unfold ZlT at hpass
 simp only [Bool.and_eq_true] at hpass
 have hcomp := hpass.1
 by_cases hcx : Z0a E ox = .s
 ·obtain ⟨f1, f2⟩ := ZzN hcx e1
  subst f1
  exact fin Hy s2' ⟨l2, c2⟩ d2 e2 ⟨Z2c (notin x ox hx (by rw [hcx]; intro h; cases h)) l1, fun hc => by rw [hcx] at hc; cases hc⟩ (fun hc => by rw [hcx] at hc; cases hc) (f2 _ _)
 by_cases hcy : Z0a E oy = .s
 ·obtain ⟨f1, f2⟩ := ZzN hcy e2
  subst f1
  exact fin H s2' ⟨Z2c (notin y oy hy (by rw [hcy]; intro h; cases h)) l2, fun hc => by rw [hcy] at hc; cases hc⟩ (fun hc => by rw [hcy] at hc; cases hc) (f2 _ _) ⟨l1, c1⟩ d1 e1
 have hwx : Z0a E ox ≠ .w := fun hw => by rw [hw] at hcomp; cases hh : Z0a E oy <;> simp_all [ZxH]
 have hwy : Z0a E oy ≠ .w := fun hw => by rw [hw] at hcomp; cases hh : Z0a E ox <;> simp_all [ZxH]
 by_cases hxc : Z0a E ox = .c
 ·have hyc : Z0a E oy ≠ .c := fun hc => by rw [hxc, hc] at hcomp; cases hcomp
  obtain ⟨idx, nbs, x1, rfl, x4⟩ := Zgg hfree hxc e1
  obtain ⟨idy, nby, y1, y2, rfl, y4⟩ := ZdO hpure hwy hyc e2
  have hl : base + m <= H.length := c1 hxc
  have hry : ∀ i ∈ Z2I E s oy, i < H.length := fun i hi => Nat.lt_of_lt_of_le (seey hxc i hi) hl
  have kyl : nby.isSome = true -> base + y < H.length := fun h => by have := hm y oy hy (y2 h); omega
  have g3 := y4 H (kOf E oy base y H) (fun hc => by simp [kOf, hc]) (ZdQ nbs (Z9t _ _ _) (fun i hi => by rw [bump_length]; exact hry i hi)).symm
  have hke : ∀ H' : Heap, eff idy nby (kOf E oy base y H') = eff idy nby (base + y) := fun H' => by
   cases hnb : nby with
   | none => rfl
   | some b => simp [kOf, y2 (by rw [hnb]; rfl)]
  rw [hke] at g3
  have kyn : nby.isSome = true -> base + y ∉ Z2I E s ox := fun h => noy (y2 h)
  have hlen : (eff idy nby (base + y) H).length = H.length := Z88 kyl
  have dy : Z0a E oy = .a -> ∃ b, H[base + y]? = some b /\ b.live = false := fun hc => by
   obtain ⟨b, hb, hd⟩ := d2 hc
   have hlt : base + y < H.length := by have := hm y oy hy hc; omega
   rw [List.getElem?_append_left (by rw [bump_length]; exact hlt), Z4g] at hb
   cases hh : H[base + y]? with
   | none => simp [hh] at hb
   | some b0 =>
    simp only [hh, Option.map_some, Option.some.injEq] at hb
    refine ⟨b0, rfl, ?_⟩
    subst hb
    split at hd <;> exact hd
  refine fin _ s2' ⟨Z2c (notin y oy hy hwy) l2, fun hc => absurd hc hyc⟩ dy g3 ⟨Z2c (notin x ox hx hwx) l1, fun _ => by rw [hlen]; exact hl⟩ (fun hc => by rw [hxc] at hc; cases hc) ?_
  rw [x4 _ _ hlen (Zfw (fun h => ⟨kyl h, kyn h⟩)), hke]
  congr 2
  rw [Znq nbs (fun i hi => by rw [bump_length]; exact hry i (y1 i hi)) (fun h => by rw [bump_length]; exact kyl h)]
  congr 1
  have := ZoF (Zew := idx) (ids2 := idy) (nb1 := none) (nb2 := nby) (k1 := 0) (k2 := base + y) (H := H) (fun h => by cases h) (fun h => ⟨kyl h, fun hin => kyn h (x1 _ hin)⟩) (fun h => by cases h)
  exact this
 by_cases hyc : Z0a E oy = .c
 ·obtain ⟨idx, nbx, x1, x2, rfl, x4⟩ := ZdO hpure hwx hxc e1
  obtain ⟨idy, nbs, y1, rfl, y4⟩ := Zgg hfree hyc e2
  have kxl : nbx.isSome = true -> base + x < H.length := fun h => keptx (x2 h)
  have hke : ∀ H' : Heap, eff idx nbx (kOf E ox base x H') = eff idx nbx (base + x) := fun H' => by
   cases hnb : nbx with
   | none => rfl
   | some b => simp [kOf, x2 (by rw [hnb]; rfl)]
  rw [hke] at c2 y4
  have hlen : (eff idx nbx (base + x) H).length = H.length := Z88 kxl
  have hl : base + m <= H.length := by have := c2 hyc; rw [hlen] at this; exact this
  have hrx : ∀ i ∈ Z2I E s ox, i < H.length := fun i hi => Nat.lt_of_lt_of_le (seex hyc i hi) hl
  have g3 := y4 H (kOf E oy base y H) hlen.symm (Zfw (fun h => ⟨kxl h, nox (x2 h)⟩)).symm
  refine fin _ s2' ⟨Z2c (notin y oy hy hwy) l2, fun _ => hl⟩ (fun hc => by rw [hyc] at hc; cases hc) g3 ⟨Z2c (notin x ox hx hwx) l1, fun hc => absurd hc hxc⟩ (fun hc => ?_) ?_
  ·obtain ⟨b, hb, hd⟩ := d1 hc
   have hlt := keptx hc
   rw [List.getElem?_append_left (by rw [bump_length]; exact hlt), Z4g, hb]
   refine ⟨_, rfl, ?_⟩
   simp only
   split <;> exact hd
  ·rw [x4 _ (kOf E ox base x (bump H idy ++ nbs)) (fun hc => by simp [kOf, hc]) (ZdQ nbs (Z9t _ _ _) (fun i hi => by rw [bump_length]; exact hrx i hi)), hke, hke]
   congr 2
   rw [Znq nbs (fun i hi => by rw [bump_length]; exact hrx i (x1 i hi)) (fun h => by rw [bump_length]; exact kxl h)]
   congr 1
   have := ZoF (Zew := idx) (ids2 := idy) (nb1 := nbx) (nb2 := none) (k1 := base + x) (k2 := 0) (H := H) (fun h => ⟨kxl h, fun hin => nox (x2 h) (y1 _ hin)⟩) (fun h => by cases h) (fun _ h => by cases h)
   exact this
 obtain ⟨idx, nbx, x1, x2, rfl, x4⟩ := ZdO hpure hwx hxc e1
 obtain ⟨idy, nby, y1, y2, rfl, y4⟩ := ZdO hpure hwy hyc e2
 have kx : nbx.isSome = true -> kOf E ox base x H = base + x := fun h => by simp [kOf, x2 h]
 have hxlt : nbx.isSome = true -> kOf E ox base x H < H.length := fun h => by rw [kx h]; exact keptx (x2 h)
 have hlen := Z88 (ids := idx) hxlt
 have ky : nby.isSome = true -> ∀ H', kOf E oy base y H' = base + y := fun h H' => by simp [kOf, y2 h]
 have simx : Z1y (Z2I E s oy) (eff idx nbx (kOf E ox base x H) H) H := (Zfw (fun h => ⟨hxlt h, by rw [kx h]; exact nox (x2 h)⟩)).symm
 have deady : Z0a E oy = .a -> ∃ b, H[base + y]? = some b /\ b.live = false := fun hc =>
  (Ztu (fun h => ⟨hxlt h, by rw [kx h]; omega⟩)).1 (d2 hc)
 have hylt : Z0a E oy = .a -> base + y < H.length := fun hc => by
  obtain ⟨b, hb, _⟩ := deady hc
  exact (List.getElem?_eq_some_iff.1 hb).1
 have g3 := y4 H (kOf E oy base y H) (fun hc => by simp [kOf, hc]) simx
 have hylt' : nby.isSome = true -> kOf E oy base y H < H.length := fun h => by rw [ky h]; exact hylt (y2 h)
 refine fin _ s2' ⟨Z2c (notin y oy hy hwy) l2, fun hc => absurd hc hyc⟩ deady g3 ⟨Z2c (notin x ox hx hwx) l1, fun hc => absurd hc hxc⟩ (fun hc => (Ztu (fun h => ⟨hylt' h, by rw [ky h]; omega⟩)).2 (d1 hc)) ?_
 have simy : Z1y (Z2I E s ox) H (eff idy nby (kOf E oy base y H) H) := Zfw (fun h => ⟨hylt' h, by rw [ky h]; exact noy (y2 h)⟩)
 have g5 := x4 _ (kOf E ox base x (eff idy nby (kOf E oy base y H) H)) (fun hc => by simp [kOf, hc]) simy
 rw [g5]
 have hk1 : nbx.isSome = true -> kOf E ox base x (eff idy nby (kOf E oy base y H) H) = base + x := fun h => by simp [kOf, x2 h]
 have hkx : eff idx nbx (kOf E ox base x (eff idy nby (kOf E oy base y H) H)) (eff idy nby (kOf E oy base y H) H) = eff idx nbx (kOf E ox base x H) (eff idy nby (kOf E oy base y H) H) := by
  cases nbx with
  | none => rfl
  | some b => rw [hk1 rfl, kx rfl]
 have hky : eff idy nby (kOf E oy base y (eff idx nbx (kOf E ox base x H) H)) (eff idx nbx (kOf E ox base x H) H) = eff idy nby (kOf E oy base y H) (eff idx nbx (kOf E ox base x H) H) := by
  cases nby with
  | none => rfl
  | some b => rw [ky rfl, ky rfl]
 rw [hkx, hky]
 congr 2
 exact ZoF (fun h => ⟨hxlt h, by rw [kx h]; exact fun hin => nox (x2 h) (y1 _ hin)⟩) (fun h => ⟨hylt' h, by rw [ky h]; exact fun hin => noy (y2 h) (x1 _ hin)⟩) (fun h1 h2 => by rw [kx h1, ky h2]; omega)
end
end Go.Proofs.YtefmbgacbhifdaaGreat.Le
namespace Go.Proofs.YtefmbgacbhifdaaGreat.Le
open Go.RowKit (Below)
theorem Zvq (acc : List Nat) (j : Nat) : ∀ (es : List Edge) (m : Nat), (es.foldl (fun m e => if Region.binds .any e then m ||| (1 <<< e.on) ||| acc.getD e.on 0 else m) m).testBit j = true ↔
  m.testBit j = true \/ ∃ e ∈ es, Region.binds .any e = true /\ (j = e.on \/ (acc.getD e.on 0).testBit j = true) := by
 intro es
 induction es with
 | nil => intro m; simp
 | cons e es ih =>
  intro m
  rw [List.foldl_cons, ih]
  by_cases hb : Region.binds .any e = true
  ·simp only [hb, if_true, Nat.testBit_or, Bool.or_eq_true, Nat.one_shiftLeft, Nat.testBit_two_pow, decide_eq_true_eq, List.mem_cons, exists_eq_or_imp, true_and]
   constructor
   ·rintro (((h | h) | h) | h)
    ·exact .inl h
    ·exact .inr (.inl (.inl h.symm))
    ·exact .inr (.inl (.inr h))
    ·exact .inr (.inr h)
   ·rintro (h | (h | h) | h)
    ·exact .inl (.inl (.inl h))
    ·exact .inl (.inl (.inr h.symm))
    ·exact .inl (.inr h)
    ·exact .inr h
  ·simp only [hb, Bool.false_eq_true, if_false, List.mem_cons, exists_eq_or_imp, false_and, false_or]
theorem ZuZ (acc : List Nat) (o : Oper) (j : Nat) : (Zns acc o).testBit j = true ↔ ∃ e ∈ o.after, Region.binds .any e = true /\ (j = e.on \/ (acc.getD e.on 0).testBit j = true) := by
 unfold Zns
 rw [Zvq]
 simp
theorem Zn9 : ∀ (os : List Oper) (acc : List Nat) (i : Nat), i < acc.length -> (Z2V acc os)[i]? = acc[i]? := by
 intro os
 induction os with
 | nil => intro acc i hi; rfl
 | cons o os ih =>
  intro acc i hi
  simp only [Z2V]
  rw [ih _ i (by simp; omega), List.getElem?_append_left hi]
theorem Zw5 : ∀ (os : List Oper) (acc : List Nat) (i : Nat) (o : Oper), os[i]? = some o ->
  ∃ acc', (Z2V acc os)[acc.length + i]? = some (Zns acc' o) /\ acc'.length = acc.length + i /\ ∀ j, j < acc'.length -> (Z2V acc os)[j]? = acc'[j]? := by
 intro os
 induction os with
 | nil => intro acc i o h; simp at h
 | cons p os ih =>
  intro acc i o h
  cases i with
  | zero =>
   simp at h
   subst h
   refine ⟨acc, ?_, rfl, fun j hj => ?_⟩
   ·simp only [Z2V]
    rw [Zn9 _ _ _ (by simp)]
    simp
   ·simp only [Z2V]
    rw [Zn9 _ _ _ (by simp; omega), List.getElem?_append_left hj]
  | succ i =>
   simp at h
   obtain ⟨acc', h1, h2, h3⟩ := ih (acc ++ [Zns acc p]) i o h
   refine ⟨acc', ?_, by rw [h2]; simp; omega, h3⟩
   simp only [Z2V]
   rw [<- h1]
   congr 1
   simp
   omega
section
variable {E : Env} {ops : Array Oper}
structure ZpD (E : Env) (ops : Array Oper) : Prop where
 low : ∀ (i : Nat) (o : Oper), ops[i]? = some o -> ∀ e ∈ o.after, Region.binds .any e = true -> e.on < i
 bit : ∀ (i : Nat) (o : Oper), ops[i]? = some o -> ∀ j, ((Z2V [] ops.toList).getD i 0).testBit j = true ↔ ∃ e ∈ o.after, Region.binds .any e = true /\ (j = e.on \/ ((Z2V [] ops.toList).getD e.on 0).testBit j = true)
 lt : ∀ (i j : Nat), i < ops.size -> ((Z2V [] ops.toList).getD i 0).testBit j = true -> j < i
 pass : ∀ (x y : Nat) (ox oy : Oper), ops[x]? = some ox -> ops[y]? = some oy -> x < y -> ((Z2V [] ops.toList).getD y 0).testBit x = true \/ (ZlT E ops ox oy || (Z5M E ops (Zog E ops) x ox oy || Z5M E ops (Zog E ops) y oy ox)) = true
theorem Zr3 (h : ZsY E ops = true) : ZpD E ops := by
 unfold ZsY at h
 simp only [List.all_eq_true, List.mem_range] at h
 have hlow : ∀ (i : Nat) (o : Oper), ops[i]? = some o -> ∀ e ∈ o.after, Region.binds .any e = true -> e.on < i := by
  intro i o ho e he
  have := h i (Array.getElem?_eq_some_iff.1 ho).1
  simp only [ho, Bool.and_eq_true, Array.all_eq_true_iff_forall_mem, Bool.or_eq_true, Bool.not_eq_true', decide_eq_true_eq] at this
  intro hb
  rcases this.1 e he with hh | hh
  ·rw [hb] at hh; cases hh
  ·exact hh
 have hbit : ∀ (i : Nat) (o : Oper), ops[i]? = some o -> ∀ j, ((Z2V [] ops.toList).getD i 0).testBit j = true ↔ ∃ e ∈ o.after, Region.binds .any e = true /\ (j = e.on \/ ((Z2V [] ops.toList).getD e.on 0).testBit j = true) := by
  intro i o ho j
  obtain ⟨acc', h1, h2, h3⟩ := Zw5 ops.toList [] i o (by simpa using ho)
  simp only [List.length_nil, Nat.zero_add] at h1 h2
  have hi : (Z2V [] ops.toList).getD i 0 = Zns acc' o := by simp [List.getD, h1]
  rw [hi, ZuZ]
  constructor
  ·rintro ⟨e, he, hb, hj⟩
   refine ⟨e, he, hb, ?_⟩
   have := h3 e.on (by rw [h2]; exact hlow i o ho e he hb)
   rcases hj with hj | hj
   ·exact .inl hj
   ·right; simp only [List.getD] at hj ⊢; rw [this]; exact hj
  ·rintro ⟨e, he, hb, hj⟩
   refine ⟨e, he, hb, ?_⟩
   have := h3 e.on (by rw [h2]; exact hlow i o ho e he hb)
   rcases hj with hj | hj
   ·exact .inl hj
   ·right; simp only [List.getD] at hj ⊢; rw [<- this]; exact hj
 refine ⟨hlow, hbit, ?_, ?_⟩
 ·intro i
  induction i using Nat.strongRecOn with
  | _ i ih =>
   intro j hi hj
   have ho : ops[i]? = some ops[i] := by simp [hi]
   obtain ⟨e, he, hb, hh⟩ := (hbit i _ ho j).1 hj
   have hlt := hlow i _ ho e he hb
   rcases hh with hh | hh
   ·omega
   ·have := ih e.on hlt j (by omega) hh
    omega
 ·intro x y ox oy hx hy hxy
  have := h y (Array.getElem?_eq_some_iff.1 hy).1
  simp only [hy, Bool.and_eq_true, List.all_eq_true, List.mem_range, Bool.or_eq_true] at this
  have := this.2 x hxy
  simp only [hx] at this
  simpa only [Bool.or_eq_true] using this
end
section
variable {call : Z1Y} {E : Env} {ops : Array Oper} {ms : List Nat} {lt : List (Nat × (Nat ⊕ Nat))} {s0 : List V} {base m : Nat}
theorem ZrF {i : Nat} {r : St} : ∀ (M1 M2 : List Nat) (st : St), (∀ y ∈ M1, ∀ st st1 st2, Zaj call E ops ms lt s0 base m y st = some st1 -> Zaj call E ops ms lt s0 base m i st1 = some st2 ->
      ∃ st1', Zaj call E ops ms lt s0 base m i st = some st1' /\ Zaj call E ops ms lt s0 base m y st1' = some st2) ->
  ZbP call E ops ms lt s0 base m (M1 ++ i :: M2) st = some r -> ∃ st1, Zaj call E ops ms lt s0 base m i st = some st1 /\ ZbP call E ops ms lt s0 base m (M1 ++ M2) st1 = some r := by
 intro M1
 induction M1 with
 | nil =>
  intro M2 st _ h
  simp only [List.nil_append, ZbP] at h
  cases h1 : Zaj call E ops ms lt s0 base m i st with
  | none => simp [h1] at h
  | some st1 => simp only [h1] at h; exact ⟨st1, rfl, h⟩
 | cons y M1 ih =>
  intro M2 st hsw h
  simp only [List.cons_append, ZbP] at h
  cases h1 : Zaj call E ops ms lt s0 base m y st with
  | none => simp [h1] at h
  | some sa =>
   simp only [h1] at h
   obtain ⟨sb, h2, h3⟩ := ih M2 sa (fun z hz => hsw z (List.mem_cons_of_mem _ hz)) h
   obtain ⟨sc, h4, h5⟩ := hsw y (by simp) st sa sb h1 h2
   exact ⟨sc, h4, by simp only [List.cons_append, ZbP, h5]; exact h3⟩
theorem ZyO {B : Nat} {w0 : Start} {σ : Sg} {P : Program} {st st' : St} {a : Act} {w : World} (hE : Z15 E) (hP : E.P = P) (hcall : Z8h P E B w0 call) {i : Nat} (h : Rel E B w0 σ st a w) (hs : Zaj call E ops ms lt s0 base m i st = some st')
  {K : Act -> World -> Prop} {Q : Exit -> Act -> World -> Prop} (hn : ∀ a' w' σ', Rel E B w0 σ' st' a' w' -> Ext σ w σ' w' -> K a' w') : wpOp P ops Q i K a w := by
 have hat : ∃ k, Z5O st.H k = true /\ Z9n call E ops k i st = some st' := by
  unfold Zaj at hs
  cases ho : ops[i]? with
  | none =>
   simp only [ho] at hs
   exact ⟨st.H.length, ZcU _, by unfold Z9n; simp only [ho]; exact hs⟩
  | some o =>
   simp only [ho] at hs
   split at hs
   ·split at hs
    ·split at hs
     ·rename_i b hb
      split at hs
      ·cases hs
      ·rename_i hl
       exact ⟨base + i, by unfold Z5O; simp only [hb]; simpa using hl, hs⟩
     ·cases hs
    ·exact ⟨st.H.length, ZcU _, hs⟩
   ·cases hs
 obtain ⟨k, hk, hat⟩ := hat
 exact Zqd hE hP hcall hk h hat hn
theorem Zyh {B : Nat} {w0 : Start} {P : Program} {r : St} (hE : Z15 E) (hP : E.P = P) (hcall : Z8h P E B w0 call) (hpure : Z9V E call) (hf : ZpD E ops) (hm : ∀ (i : Nat) (o : Oper), ops[i]? = some o -> Z0a E o = .a -> i < m)
  {Q : Exit -> Act -> World -> Prop} : ∀ (fuel : Nat) (M : List Nat) (listed : Array Bool) (st : St) (σ : Sg) (a : Act) (w : World), M.length <= fuel -> listed.size = ops.size ->
  (∀ j, j ∈ M ↔ listed.getD j true = false) -> M.Pairwise (· < ·) -> (∀ k j, listed.getD k false = true -> ((Z2V [] ops.toList).getD k 0).testBit j = true -> listed.getD j false = true) ->
  ZbP call E ops (Z2V [] ops.toList) (Zog E ops) s0 base m M st = some r -> Rel E B w0 σ st a w -> (∀ a' w' σ', Rel E B w0 σ' r a' w' -> Ext σ w σ' w' -> Q .normal a' w') -> wpAny P .any ops Q fuel listed a w := by
 intro fuel
 induction fuel with
 | zero =>
  intro M listed st σ a w hl hsz hM hsort hdown hs hr hn
  have hnil : M = [] := List.eq_nil_of_length_eq_zero (by omega)
  subst hnil
  simp only [ZbP, Option.some.injEq] at hs
  subst hs
  refine ⟨?_, hn a w σ hr (Ext.refl σ w)⟩
  cases hrd : Region.ready .any ops listed with
  | nil => rfl
  | cons i rest =>
   have hi : i ∈ Region.ready .any ops listed := by rw [hrd]; simp
   have := (hM i).2 (mem_ready.1 hi).1
   cases this
 | succ fuel ih =>
  intro M listed st σ a w hl hsz hM hsort hdown hs hr hn
  have hlist : ∀ j, j < ops.size -> j ∉ M -> listed.getD j false = true := by
   intro j hj hn
   have : ¬ listed.getD j true = false := fun h => hn ((hM j).2 h)
   have hjl : j < listed.size := by omega
   simp [hjl] at this ⊢
   exact this
  refine ⟨fun hready => ?_, fun i hi => ?_⟩
  ·
   cases M with
   | nil =>
    simp only [ZbP, Option.some.injEq] at hs
    subst hs
    exact hn a w σ hr (Ext.refl σ w)
   | cons i rest =>
    exfalso
    have hun := (hM i).1 (by simp)
    have hilt : i < ops.size := by
     rcases Nat.lt_or_ge i listed.size with h | h
     ·omega
     ·simp [Array.getElem?_eq_none h] at hun
    have ho : ops[i]? = some ops[i] := by simp [hilt]
    have : i ∈ Region.ready .any ops listed := mem_ready.2 ⟨hun, _, ho, fun e he hb => by
     have hlt := hf.low i _ ho e he hb
     refine hlist e.on (by omega) (fun hin => ?_)
     rcases List.mem_cons.1 hin with h | h
     ·omega
     ·have := (List.pairwise_cons.1 hsort).1 _ h
      omega⟩
    rw [hready] at this
    cases this
  ·obtain ⟨hun, oi, hoi, hall⟩ := mem_ready.1 hi
   have hin := (hM i).2 hun
   obtain ⟨M1, M2, rfl⟩ := List.append_of_mem hin
   have hilt : i < ops.size := (Array.getElem?_eq_some_iff.1 hoi).1
   have hM1 : ∀ y ∈ M1, y < i := fun y hy => (List.pairwise_append.1 hsort).2.2 y hy i (by simp)
   have hmask : ∀ j, ((Z2V [] ops.toList).getD i 0).testBit j = true -> listed.getD j false = true := by
    intro j hj
    obtain ⟨e, he, hb, hh⟩ := (hf.bit i oi hoi j).1 hj
    rcases hh with hh | hh
    ·rw [hh]; exact hall e he hb
    ·exact hdown e.on j (hall e he hb) hh
   have hunl : ∀ y, listed.getD y true = false -> listed.getD y false = false := by
    intro y hy
    rcases Nat.lt_or_ge y listed.size with h | h
    ·simp [h] at hy ⊢; exact hy
    ·simp [Array.getElem?_eq_none h] at hy
   obtain ⟨st1, h1, h2⟩ := ZrF M1 M2 st (fun y hy sa sb sc hsa hsb => by
    have hyun : listed.getD y true = false := (hM y).1 (by simp [hy])
    have hylt : y < ops.size := by have := hM1 y hy; omega
    have hoy : ops[y]? = some ops[y] := by simp [hylt]
    have hbit : ((Z2V [] ops.toList).getD i 0).testBit y = false := by
     cases hb : ((Z2V [] ops.toList).getD i 0).testBit y with
     | false => rfl
     | true => have := hmask y hb; rw [hunl y hyun] at this; cases this
    have hbit' : ((Z2V [] ops.toList).getD y 0).testBit i = false := by
     cases hb : ((Z2V [] ops.toList).getD y 0).testBit i with
     | false => rfl
     | true => have := hf.lt y i hylt hb; have := hM1 y hy; omega
    have hp := (hf.pass y i _ oi hoy hoi (hM1 y hy)).resolve_left (by rw [hbit]; simp)
    exact Zum hpure hm hoy hoi (by have := hM1 y hy; omega) hp (fun x t h => ZvQ h) hbit hbit' hsa hsb) hs
   refine ZyO hE hP hcall hr h1 (fun a1 w1 σ1 hr1 he1 => ?_)
   have hget : ∀ j d, (listed.setIfInBounds i true).getD j d = if j = i then true else listed.getD j d := by
    intro j d
    by_cases hji : j = i
    ·subst hji
     have : j < listed.size := by omega
     simp [this]
    ·rw [if_neg hji, getD_set_ne d (fun e => hji e.symm)]
   have hnot : i ∉ M1 ++ M2 := by
    intro h
    rcases List.mem_append.1 h with h | h
    ·have := hM1 i h; omega
    ·have := (List.pairwise_cons.1 (List.pairwise_append.1 hsort).2.1).1 i h; omega
   refine ih (M1 ++ M2) (listed.setIfInBounds i true) st1 σ1 a1 w1 (by simp at hl ⊢; omega) (by simpa using hsz) (fun j => ?_) ?_ (fun k j hk hj => ?_) h2 hr1 (fun a' w' σ' hr' he' => hn a' w' σ' hr' (he1.trans he'))
   ·rw [hget]
    by_cases hji : j = i
    ·subst hji
     rw [if_pos rfl]
     exact ⟨fun h => absurd h hnot, fun h => by cases h⟩
    ·rw [if_neg hji, <- hM j]
     simp [hji]
   ·exact hsort.sublist (List.Sublist.append_left (List.sublist_cons_self i M2) M1)
   ·rw [hget] at hk ⊢
    by_cases hji : j = i
    ·rw [if_pos hji]
    ·rw [if_neg hji]
     by_cases hki : k = i
     ·subst hki; exact hmask j hj
     ·rw [if_neg hki] at hk
      exact hdown k j hk hj
theorem Inv.reserve {B : Nat} {w0 : Start} {σ : Sg} {H : Heap} {w : World} (h : Inv B w0 σ H w) (n : Nat) : Inv B w0 σ (H ++ List.replicate n Zdq) w := by
 have hold : ∀ (i : Nat) (b : Box), (H ++ List.replicate n Zdq)[i]? = some b -> b.live = true -> H[i]? = some b := by
  intro i b hb hl
  rw [List.getElem?_append] at hb
  split at hb
  ·exact hb
  ·have := (List.mem_replicate.1 (List.mem_of_getElem? hb)).2
   subst this
   cases hl
 refine ⟨h.below, h.size, fun id L hL => ?_, fun i b hb hl => h.boxes i b (hold i b hb hl) hl, fun i j b1 b2 L1 L2 g h1 h2 l1 l2 => h.apart i j b1 b2 L1 L2 g (hold i b1 h1 l1) (hold j b2 h2 l2) l1 l2, h.cells,
  fun b c hc i bx L hb hl => h.floor b c hc i bx L (hold i bx hb hl) hl, fun i b hb hl => h.low i b (hold i b hb hl) hl, h.old, h.kept⟩
 obtain ⟨b, h1, h2⟩ := h.dom id L hL
 exact ⟨b, by rw [List.getElem?_append_left (List.getElem?_eq_some_iff.1 h1).1]; exact h1, h2⟩
theorem Zxr {B : Nat} {w0 : Start} {σ : Sg} {P : Program} {st st' : St} {a : Act} {w : World} (hE : Z15 E) (hP : E.P = P) (hmix : P.follows .mixedOrders = true) (hcall : Z8h P E B w0 call) (hpure : Z9V E call) (hd : ZsY E ops = true)
  (h : Rel E B w0 σ st a w) (hs : ZsA call E ops st = some st') {id : Nat} {Q : Exit -> Act -> World -> Prop} (hn : ∀ a' w' σ', Rel E B w0 σ' st' a' w' -> Ext σ w σ' w' -> Q .normal a' w') : (Code.region id ops true).wp P Q a w := by
 have hg : w.grownBy { w with drawn := w.drawn + 1 } none := ⟨rfl, rfl, rfl, Nat.le_refl _, fun _ _ _ => rfl⟩
 obtain ⟨hI, hEx⟩ := h.inv.grown hg
 refine wp_region_any hmix ?_
 unfold ZsA at hs
 refine Zyh hE hP hcall hpure (Zr3 hd) (m := if ops.any (fun o => decide (Z0a E o = .a)) then ops.size else 0) (fun i o ho hc => ?_) ops.size (List.range ops.size) _ _ σ a _ (by simp) (by simp) (fun j => ?_) List.pairwise_lt_range (fun k j hk => ?_) hs
  ⟨hI.reserve _, h.Zcy.ext hEx, h.slots.ext hEx, h.calm⟩ (fun a' w' σ' hr he => hn a' w' σ' hr (hEx.trans he))
 ·have : ops.any (fun o => decide (Z0a E o = .a)) = true := Array.any_eq_true'.2 ⟨o, Array.mem_of_getElem? ho, by simpa using hc⟩
  rw [if_pos this]
  exact (Array.getElem?_eq_some_iff.1 ho).1
 ·rw [List.mem_range]
  rcases Nat.lt_or_ge j ops.size with hj | hj
  ·simp [hj]
  ·simp [Nat.not_lt.2 hj]
 ·exfalso
  rcases Nat.lt_or_ge k ops.size with hj | hj
  ·simp [hj] at hk
  ·simp [hj] at hk
end
end Go.Proofs.YtefmbgacbhifdaaGreat.Le
namespace Go.Proofs.YtefmbgacbhifdaaGreat.Le
open Go.RowKit (Below)
def Ex.out : Ex -> Exit
 | .normal => .normal
 | .ret => .ret
 | .exit id => .exit id
def ZvM (P : Program) (E : Env) (B : Nat) (w0 : Start) (f : FuncId) (lp : Code -> St -> Option (Ex × St)) : Prop :=
 ∀ b st ex st', Z5L E f b = true -> lp b st = some (ex, st') -> ∀ (Q : Exit -> Act -> World -> Prop) σ a w, Rel E B w0 σ st a w ->
  (∀ a' w' σ', Rel E B w0 σ' st' a' w' -> Ext σ w σ' w' -> Q ex.out a' w') -> (Code.loop b).wp P Q a w
section
variable {P : Program} {E : Env} {B : Nat} {w0 : Start} {call : Z1Y} {f : FuncId}
theorem Zf5 (hE : Z15 E) (hP : E.P = P) (hcall : Z8h P E B w0 call) (hpure : Z9V E call) {lp : Code -> St -> Option (Ex × St)} (hlp : ZvM P E B w0 f lp) :
  ∀ (c : Code) (st : St) (ex : Ex) (st' : St), Z5L E f c = true -> Z99 call lp E f c st = some (ex, st') -> ∀ (Q : Exit -> Act -> World -> Prop) (σ : Sg) (a : Act) (w : World), Rel E B w0 σ st a w ->
   (∀ a' w' σ', Rel E B w0 σ' st' a' w' -> Ext σ w σ' w' -> Q ex.out a' w') -> c.wp P Q a w := by
 intro c
 induction c with
 | skip =>
  intro st ex st' hc h Q σ a w hr hn
  simp only [Z99, Option.some.injEq, Prod.mk.injEq] at h
  obtain ⟨rfl, rfl⟩ := h
  exact wp_skip (hn a w σ hr (Ext.refl σ w))
 | region id ops draw =>
  intro st ex st' hc h Q σ a w hr hn
  cases draw with
  | false =>
   simp only [Z99] at h
   cases hs : Zvk call E ops (List.range ops.size) st with
   | none => simp [hs] at h
   | some r =>
    simp only [hs, Option.map_some, Option.some.injEq, Prod.mk.injEq] at h
    obtain ⟨rfl, rfl⟩ := h
    exact wp_region (ZwY hE hP hcall _ st σ a w hr hs hn)
  | true =>
   simp only [Z99] at h
   split at h
   ·rename_i hcalm
    cases hs : ZsA call E ops st with
    | none => simp [hs] at h
    | some r =>
     simp only [hs, Option.map_some, Option.some.injEq, Prod.mk.injEq] at h
     obtain ⟨rfl, rfl⟩ := h
     refine Zxr hE hP (by rw [<- hP]; exact hE.mix) hcall hpure ?_ hr hs hn
     simpa [Z5L, hcalm] using hc
   ·cases h
 | seq x y ihx ihy =>
  intro st ex st' hc h Q σ a w hr hn
  simp only [Z5L, Bool.and_eq_true] at hc
  simp only [Z99] at h
  split at h
  ·rename_i st1 h1
   exact wp_seq (ihx st .normal st1 hc.1 h1 _ σ a w hr (fun a1 w1 σ1 hr1 he1 => ihy st1 ex st' hc.2 h Q σ1 a1 w1 hr1 (fun a' w' σ' hr' he' => hn a' w' σ' hr' (he1.trans he'))))
  ·rename_i hne
   refine wp_seq (ihx st ex st' hc.1 h _ σ a w hr (fun a1 w1 σ1 hr1 he1 => ?_))
   have := hn a1 w1 σ1 hr1 he1
   cases ex with
   | normal => exact absurd h (hne _)
   | ret => exact this
   | exit id => exact this
 | cond c x y ihx ihy =>
  intro st ex st' hc h Q σ a w hr hn
  simp only [Z5L, Bool.and_eq_true] at hc
  simp only [Z99] at h
  split at h
  ·rename_i t ht
   have hv := Z0E (a := a) hr.Zcy hr.slots c
   rw [ht] at hv
   have hb : a.eval c = .bool t := by generalize a.eval c = v at hv; cases hv; rfl
   refine wp_cond hb ?_
   cases t with
   | true => exact ihx st ex st' hc.1 h Q σ a w hr hn
   | false => exact ihy st ex st' hc.2 h Q σ a w hr hn
  ·cases h
 | block id b ih =>
  intro st ex st' hc h Q σ a w hr hn
  simp only [Z5L] at hc
  simp only [Z99] at h
  split at h
  ·rename_i i st1 h1
   refine wp_block (ih st (.exit i) st1 hc h1 _ σ a w hr (fun a1 w1 σ1 hr1 he1 => ?_))
   simp only [Ex.out, Exit.inBlock]
   split at h
   ·rename_i hi
    cases h
    rw [if_pos hi]
    exact hn a1 w1 σ1 hr1 he1
   ·rename_i hi
    cases h
    rw [if_neg hi]
    exact hn a1 w1 σ1 hr1 he1
  ·rename_i hne
   refine wp_block (ih st ex st' hc h _ σ a w hr (fun a1 w1 σ1 hr1 he1 => ?_))
   have := hn a1 w1 σ1 hr1 he1
   cases ex with
   | normal => exact this
   | ret => exact this
   | exit i => exact absurd h (hne _ _)
 | loop b ih =>
  intro st ex st' hc h Q σ a w hr hn
  exact hlp b st ex st' hc h Q σ a w hr hn
 | exit id =>
  intro st ex st' hc h Q σ a w hr hn
  simp only [Z99, Option.some.injEq, Prod.mk.injEq] at h
  obtain ⟨rfl, rfl⟩ := h
  exact wp_exit (hn a w σ hr (Ext.refl σ w))
 | ret =>
  intro st ex st' hc h Q σ a w hr hn
  simp only [Z99, Option.some.injEq, Prod.mk.injEq] at h
  obtain ⟨rfl, rfl⟩ := h
  exact wp_ret (hn a w σ hr (Ext.refl σ w))
 | _ =>
  intro st ex st' hc h
  cases h
theorem ZrY (hE : Z15 E) (hP : E.P = P) (hcall : Z8h P E B w0 call) (hpure : Z9V E call) : ∀ n, ZvM P E B w0 f (Zs3 call E f n) := by
 have key : ∀ n, ∀ b st ex st', Z5L E f b = true -> Zs3 call E f n b st = some (ex, st') -> ∀ (Q : Exit -> Act -> World -> Prop) σ a w, Rel E B w0 σ st a w ->
  (∀ a' w' σ', Rel E B w0 σ' st' a' w' -> Ext σ w σ' w' -> Q ex.out a' w') -> Code.rounds P b Q n a w := by
  intro n
  induction n with
  | zero => intro b st ex st' hc h; cases h
  | succ n ih =>
   intro b st ex st' hc h Q σ a w hr hn
   rw [rounds_succ]
   have hlp : ZvM P E B w0 f (Zs3 call E f n) := fun b st ex st' hc h Q σ a w hr hn => wp_loop_rounds n (ih b st ex st' hc h Q σ a w hr hn)
   simp only [Zs3] at h
   split at h
   ·rename_i st1 h1
    exact Zf5 hE hP hcall hpure hlp b st .normal st1 hc h1 _ σ a w hr (fun a1 w1 σ1 hr1 he1 => ih b st1 ex st' hc h Q σ1 a1 w1 hr1 (fun a' w' σ' hr' he' => hn a' w' σ' hr' (he1.trans he')))
   ·rename_i hne
    refine Zf5 hE hP hcall hpure hlp b st ex st' hc h _ σ a w hr (fun a1 w1 σ1 hr1 he1 => ?_)
    have := hn a1 w1 σ1 hr1 he1
    cases ex with
    | normal => exact absurd h (hne _)
    | ret => exact this
    | exit id => exact this
 exact fun n b st ex st' hc h Q σ a w hr hn => wp_loop_rounds n (key n b st ex st' hc h Q σ a w hr hn)
theorem ZuR {σ : Sg} {H : Heap} {w : World} (hE : Z15 E) (hP : E.P = P) (hI : Inv B w0 σ H w) {t : TypeId} {x r : V} {v : Value} (hx : Zv σ w [x] [v]) (h : Zji E H t x = some r) :
  ∃ u, (do loadVar t (<- asAddr v) : Sem Value).run P w = .ok u w /\ Zv σ w [r] [u] := by
 obtain ⟨u, hu, hr⟩ := ZvZ (P := P) hE hP hI hx h
 refine ⟨u, ?_, hr⟩
 have hv : ∃ A, v = .pointer (some A) := by
  unfold Zji at h
  split at h
  ·cases h
  ·split at h
   ·cases hx; exact ⟨_, rfl⟩
   ·cases hx with
    | ptr g _ _ _ h4 _ => exact ⟨_, h4⟩
   ·cases h
 obtain ⟨A, rfl⟩ := hv
 rw [<- hu]
 simp [Instr.loadAt, asAddr, Instr.sureAddr]
theorem ZCj {σ : Sg} {H : Heap} {w : World} {s : List V} {tmps : Array Value} (hE : Z15 E) (hP : E.P = P) (hI : Inv B w0 σ H w) (hs : Zv σ w s tmps.toList) : ∀ (rs : List ResultVar) (xs : List V), rs.mapM (resD E H s) = some xs ->
  ∃ vs, (rs.mapM (fun (r : ResultVar) => (match r with | .tmp t => pure (tmps.getD t undef) | .cell a t => do loadVar t (<- asAddr (tmps.getD a undef)) : Sem Value))).run P w = .ok vs w /\ Zv σ w xs vs := by
 have hget : ∀ t, Zv σ w [s.getD t .und] [tmps.getD t undef] := fun t => by
  have := ZpB hs t
  simpa using this
 intro rs
 induction rs with
 | nil =>
  intro xs h
  simp at h
  subst h
  exact ⟨[], rfl, .nil⟩
 | cons r rs ih =>
  intro xs h
  rw [List.mapM_cons] at h
  cases hr : resD E H s r with
  | none => simp [hr] at h
  | some x =>
   cases hrs : rs.mapM (resD E H s) with
   | none => simp [hr, hrs] at h
   | some xs' =>
    simp [hr, hrs] at h
    subst h
    obtain ⟨vs, hv, hx⟩ := ih xs' hrs
    have h1 : ∃ u, ((match r with | .tmp t => pure (tmps.getD t undef) | .cell a t => do loadVar t (<- asAddr (tmps.getD a undef)) : Sem Value)).run P w = .ok u w /\ Zv σ w [x] [u] := by
     cases r with
     | tmp t =>
      simp only [resD, Option.some.injEq] at hr
      subst hr
      exact ⟨_, rfl, hget t⟩
     | cell a t => exact ZuR hE hP hI (hget a) hr
    obtain ⟨u, hu, hur⟩ := h1
    refine ⟨u :: vs, ?_, Zv.Z0Q.2 ⟨hur, hx⟩⟩
    rw [List.mapM_cons, Sem.run_bind, hu, Result.andThen_ok, Sem.run_bind, hv, Result.andThen_ok]
    rfl
theorem ZdH {σ : Sg} {H : Heap} {w : World} {s : List V} {tmps : Array Value} (hE : Z15 E) (hP : E.P = P) (hI : Inv B w0 σ H w) (hs : Zv σ w s tmps.toList) {fn : Func} {x : V} (h : Z46 E H s fn.results.toList = some x) :
  ∃ u, (results fn tmps).run P w = .ok u w /\ Zv σ w [x] [u] := by
 unfold Z46 at h
 cases hm : fn.results.toList.mapM (resD E H s) with
 | none => simp [hm] at h
 | some xs =>
  obtain ⟨vs, hv, hr⟩ := ZCj (P := P) hE hP hI hs _ xs hm
  have hrun : (results fn tmps).run P w = .ok (if h : vs.toArray.size = 1 then vs.toArray[0] else .tuple vs.toArray) w := by
   unfold results
   rw [Sem.run_bind]
   have hm2 : (fn.results.mapM (fun (r : ResultVar) => (match r with | .tmp t => pure (tmps.getD t undef) | .cell a t => do loadVar t (<- asAddr (tmps.getD a undef)) : Sem Value))).run P w = .ok vs.toArray w := by
    rw [Array.mapM_eq_mapM_toList, map_eq_pure_bind, Sem.run_bind, hv, Result.andThen_ok]
    rfl
   have := congrArg (fun r => Result.andThen r fun (vs : Array Value) (w' : World) => (pure (if h : vs.size = 1 then vs[0] else .tuple vs) : Sem Value).run P w') hm2
   exact this
  refine ⟨_, hrun, ?_⟩
  rw [hm] at h
  have hlen := hr.length
  split at h
  ·rename_i v hh
   cases hh
   simp only [Option.some.injEq] at h
   subst h
   obtain ⟨u, vs', rfl, h1, h2⟩ := hr.ZL
   cases h2.Z0w
   simpa using h1
  ·rename_i ys hne hh
   cases hh
   simp only [Option.some.injEq] at h
   subst h
   have : ¬ vs.toArray.size = 1 := by
    intro hh
    simp at hh
    rw [<- hlen] at hh
    obtain ⟨y, rfl⟩ := List.length_eq_one_iff.1 hh
    exact hne y rfl
   rw [dif_neg this]
   exact .tup hr .nil
  ·rename_i hh; cases hh
end
end Go.Proofs.YtefmbgacbhifdaaGreat.Le
namespace Go.Proofs.YtefmbgacbhifdaaGreat.Le
open Go.RowKit (Below)
def bare (fz : Nat -> Nat -> Prop) : Sg := ⟨fun _ => none, fz⟩
theorem Lies.bare {σ σ' : Sg} {w w' : World} {b o : Nat} {us : List Value} (h : Lies σ w b o us) (hfz : ∀ b c, σ.fz b c -> σ'.fz b c /\ w'.cell? ⟨b, c, none⟩ = w.cell? ⟨b, c, none⟩) : Lies σ' w' b o us := fun j u hu => by
 obtain ⟨h1, h2⟩ := h j u hu
 obtain ⟨e1, e2⟩ := hfz _ _ h1
 exact ⟨e1, e2.trans h2⟩
theorem Zv.bare {σ σ' : Sg} {w w' : World} {xs : List V} {vs : List Value} (h : Zv σ w xs vs) (hfz : ∀ b c, σ.fz b c -> σ'.fz b c /\ w'.cell? ⟨b, c, none⟩ = w.cell? ⟨b, c, none⟩) :
  ZH xs = true -> Zv σ' w' xs vs := by
 induction h with
 | nil => intro _; exact .nil
 | und u _ ih => intro hn; simp [ZH] at hn; exact .und u (ih hn.2)
 | no _ ih => intro hn; simp [ZH] at hn; exact .no (ih hn.2)
 | lit hl _ ih => intro hn; simp [ZH] at hn; exact .lit hl (ih hn.2)
 | agg _ ho _ ih1 ih2 => intro hn; simp [ZH, Z05] at hn; exact .agg (ih1 hn.1) ho (ih2 hn.2)
 | tup _ _ ih1 ih2 => intro hn; simp [ZH, Z05] at hn; exact .tup (ih1 hn.1) (ih2 hn.2)
 | Z4u _ ih => intro hn; simp [ZH] at hn; exact .Z4u (ih hn.2)
 | Z3d _ ih => intro hn; simp [ZH] at hn; exact .Z3d (ih hn.2)
 | Z62 a _ ih => intro hn; simp [ZH] at hn; exact .Z62 a (ih hn.2)
 | Z3u a _ ih => intro hn; simp [ZH] at hn; exact .Z3u a (ih hn.2)
 | sl b o c e' _ h0 h1 h2 h3 h4 h5 _ ih1 ih2 => intro hn; simp [ZH, Z05] at hn; exact .sl b o c e' (ih1 hn.1) h0 h1 h2 h3 h4 (h5.bare hfz) (ih2 hn.2)
 | slt b o e' _ h0 h1 h2 h3 h4 _ ih1 ih2 => intro hn; simp [ZH, Z05] at hn; exact .slt b o e' (ih1 hn.1) h0 h1 h2 h3 (h4.bare hfz) (ih2 hn.2)
 | lsl h1 h2 h3 h4 _ ih => intro hn; simp [ZH, Z05] at hn
 | ptr g h1 h2 h3 h4 _ ih => intro hn; simp [ZH, Z05] at hn
 | ept b o e' i off _ h0 h1 h2 h3 _ ih1 ih2 => intro hn; simp [ZH, Z05] at hn; exact .ept b o e' i off (ih1 hn.1) h0 h1 h2 (h3.bare hfz) (ih2 hn.2)
 | fn _ _ _ ih1 ih2 ih3 => intro hn; simp [ZH, Z05] at hn; exact .fn (ih1 hn.1.1) (ih2 hn.1.2) (ih3 hn.2)
 | ifc _ _ ih1 ih2 => intro hn; simp [ZH, Z05] at hn; exact .ifc (ih1 (by simp [ZH, hn.1])) (ih2 hn.2)
theorem Z0C.bare {E : Env} {σ σ' : Sg} {w w' : World} (h : Z0C E σ w) (hfz : ∀ b c, σ.fz b c -> σ'.fz b c /\ w'.cell? ⟨b, c, none⟩ = w.cell? ⟨b, c, none⟩) : Z0C E σ' w' := by
 intro g r hg
 have hr := h g r hg
 generalize hv : Value.pointer (some ⟨g, 0, none⟩) = v at hr ⊢
 cases hr with
 | ept b o e' i off k0 k1 k2 k3 k4 _ => exact .ept b o _ _ _ (k0.bare hfz (Z41 k1)) k1 k2 k3 (k4.bare hfz) .nil
theorem ZlU (ρ : Nat -> Nat) (xs : List V) : Z94 ρ xs = xs.map (Zia ρ) := by
 induction xs with
 | nil => rfl
 | cons x xs ih => simp [Z94, ih]
theorem Zd6 (ρ : Nat -> Nat) (xs : List V) : (Z94 ρ xs).length = xs.length := by rw [ZlU]; simp
theorem ZvV (ρ : Nat -> Nat) (x : V) : okV (Zia ρ x) = okV x := by cases x <;> simp [Zia, okV]
theorem ZhG {σ σ' : Sg} {w w' : World} {ρ : Nat -> Nat} {xs : List V} {vs : List Value} (h : Zv σ w xs vs) (hfz : ∀ b c, σ.fz b c -> σ'.fz b c /\ w'.cell? ⟨b, c, none⟩ = w.cell? ⟨b, c, none⟩) :
  (∀ id ∈ Z0u xs, σ'.box (ρ id) = σ.box id) -> Zv σ' w' (Z94 ρ xs) vs := by
 induction h with
 | nil => intro _; exact .nil
 | und u _ ih => intro hn; exact .und u (ih fun id h => hn id (by simp [Z0u, h]))
 | no _ ih => intro hn; exact .no (ih fun id h => hn id (by simp [Z0u, h]))
 | lit hl _ ih => intro hn; exact .lit hl (ih fun id h => hn id (by simp [Z0u, h]))
 | agg _ ho _ ih1 ih2 => intro hn; exact .agg (ih1 fun id h => hn id (by simp [Z0u, Z3x, h])) ho (ih2 fun id h => hn id (by simp [Z0u, h]))
 | tup _ _ ih1 ih2 => intro hn; exact .tup (ih1 fun id h => hn id (by simp [Z0u, Z3x, h])) (ih2 fun id h => hn id (by simp [Z0u, h]))
 | Z4u _ ih => intro hn; exact .Z4u (ih fun id h => hn id (by simp [Z0u, h]))
 | Z3d _ ih => intro hn; exact .Z3d (ih fun id h => hn id (by simp [Z0u, h]))
 | Z62 a _ ih => intro hn; exact .Z62 a (ih fun id h => hn id (by simp [Z0u, h]))
 | Z3u a _ ih => intro hn; exact .Z3u a (ih fun id h => hn id (by simp [Z0u, h]))
 | sl b o c e' h h0 h1 h2 h3 h4 h5 _ _ ih2 => intro hn; exact .sl b o c e' (h.bare hfz (Z41 h0)) h0 h1 h2 h3 h4 (h5.bare hfz) (ih2 fun id h => hn id (by simp [Z0u, h]))
 | slt b o e' h h0 h1 h2 h3 h4 _ _ ih2 => intro hn; exact .slt b o e' (h.bare hfz (Z41 h0)) h0 h1 h2 h3 (h4.bare hfz) (ih2 fun id h => hn id (by simp [Z0u, h]))
 | lsl h1 h2 h3 h4 _ ih => intro hn; exact .lsl ((hn _ (by simp [Z0u, Z3x])).trans h1) h2 h3 h4 (ih fun id h => hn id (by simp [Z0u, h]))
 | ptr g h1 h2 h3 h4 _ ih => intro hn; exact .ptr g ((hn _ (by simp [Z0u, Z3x])).trans h1) h2 h3 h4 (ih fun id h => hn id (by simp [Z0u, h]))
 | ept b o e' i off h h0 h1 h2 h3 _ _ ih2 => intro hn; exact .ept b o e' i off (h.bare hfz (Z41 h0)) h0 h1 h2 (h3.bare hfz) (ih2 fun id h => hn id (by simp [Z0u, h]))
 | fn _ _ _ ih1 ih2 ih3 => intro hn; exact .fn (ih1 fun id h => hn id (by simp [Z0u, Z3x, h])) (ih2 fun id h => hn id (by simp [Z0u, Z3x, h])) (ih3 fun id h => hn id (by simp [Z0u, h]))
 | ifc _ _ ih1 ih2 => intro hn; exact .ifc (ih1 fun id h => hn id (by simp [Z0u, Z3x] at h ⊢; simp [h])) (ih2 fun id h => hn id (by simp [Z0u, h]))
theorem Zx2 {σ σ' : Sg} {w w' : World} {ρ : Nat -> Nat} {x : V} {v : Value} (h : Zv σ w [x] [v]) (hfz : ∀ b c, σ.fz b c -> σ'.fz b c /\ w'.cell? ⟨b, c, none⟩ = w.cell? ⟨b, c, none⟩)
  (hn : ∀ id ∈ Z3x x, σ'.box (ρ id) = σ.box id) : Zv σ' w' [Zia ρ x] [v] := ZhG h hfz (by simpa [Z0u] using hn)
structure Z7Q (H H1 : Heap) : Prop where
 len : H.length <= H1.length
 at_ : ∀ (id : Nat) (b : Box), H[id]? = some b -> ∃ b', H1[id]? = some b' /\ b'.live = b.live /\ b'.row = b.row /\ b'.xs = b.xs
theorem Z7Q.refl (H : Heap) : Z7Q H H := ⟨Nat.le_refl _, fun id b h => ⟨b, h, rfl, rfl, rfl⟩⟩
theorem Z7Q.trans {A B C : Heap} (h : Z7Q A B) (k : Z7Q B C) : Z7Q A C :=
 ⟨Nat.le_trans h.len k.len, fun id b hb => by
  obtain ⟨b1, h1, h2, h3, h4⟩ := h.at_ id b hb
  obtain ⟨b2, k1, k2, k3, k4⟩ := k.at_ id b1 h1
  exact ⟨b2, k1, k2.trans h2, k3.trans h3, k4.trans h4⟩⟩
theorem Z7Q.bump (H : Heap) (ids : List Nat) : Z7Q H (bump H ids) :=
 ⟨by rw [bump_length]; exact Nat.le_refl _, fun id b hb => ⟨_, by rw [Z4g, hb]; rfl, by split <;> rfl, by split <;> rfl, by split <;> rfl⟩⟩
theorem Z7Q.push (H : Heap) (b : Box) : Z7Q H (H ++ [b]) :=
 ⟨by simp, fun id b' hb => ⟨b', by rw [List.getElem?_append_left (List.getElem?_eq_some_iff.1 hb).1]; exact hb, rfl, rfl, rfl⟩⟩
section
variable {B : Nat} {w0 : Start} {σ : Sg} {H H1 : Heap} {w : World}
theorem ZtH (h : Inv B w0 σ H w) {f : Fk} {x y : V} {v : Value} (hr : Zv σ w [x] [v]) (hp : Zcj f H x = some (y, H1)) : Z7Q H H1 /\ ∃ σ', Inv B w0 σ' H1 w /\ Ext σ w σ' w /\ Zv σ' w [y] [v] := by
 have mk : ∀ (e : TypeId) (sz : Nat), ∃ σ', Inv B w0 σ' (H ++ [ZK true false e sz []]) w /\ Ext σ w σ' w /\ Zv σ' w [.lsl H.length 0 0 0] [.slice none 0 0] := by
  intro e sz
  obtain ⟨σ', h1, h2, h3⟩ := Z90 (e := e) (esz := sz) (v' := .slice none 0 0) h (ZcU H) (grownBy_refl w none) (xs := []) (us := []) .nil (by simp) (by simp) (by simp [flat]) ⟨by simp [flat], .inl ⟨rfl, rfl⟩⟩ (by simp [Value.ownBlock]) false (by simp)
  exact ⟨σ', by rw [Zxi] at h1; exact h1, h2, h3⟩
 cases f with
 | s e sz =>
  simp only [Zcj] at hp
  cases hf : Zn8 H x with
  | none => simp [hf] at hp
  | some y0 =>
   simp only [hf, Option.map_some, Option.some.injEq, Prod.mk.injEq] at hp
   obtain ⟨rfl, rfl⟩ := hp
   obtain ⟨h1, h2⟩ := h.freeze (Zew x)
   exact ⟨Z7Q.bump _ _, _, h1, h2, Zda sz (ZgF h hr hf (Zew x) (fun i hi => hi))⟩
 | own e sz =>
  simp only [Zcj] at hp
  unfold Zwy at hp
  split at hp
  ·simp only [Option.some.injEq, Prod.mk.injEq] at hp
   obtain ⟨rfl, rfl⟩ := hp
   cases hr with
   | Z4u _ => exact ⟨Z7Q.push _ _, mk e sz⟩
  ·simp only [Option.some.injEq, Prod.mk.injEq] at hp
   obtain ⟨rfl, rfl⟩ := hp
   cases hr with
   | Z3d _ => exact ⟨Z7Q.push _ _, mk e sz⟩
  ·split at hp
   ·simp only [Option.some.injEq, Prod.mk.injEq] at hp
    obtain ⟨rfl, rfl⟩ := hp
    exact ⟨Z7Q.refl _, σ, h, Ext.refl _ _, hr⟩
   ·cases hp
  ·cases hp
 | keep =>
  simp only [Zcj, Option.some.injEq, Prod.mk.injEq] at hp
  obtain ⟨rfl, rfl⟩ := hp
  exact ⟨Z7Q.refl _, σ, h, Ext.refl _ _, hr⟩
theorem Zyn : ∀ {fl : List Fk} {H : Heap} {σ : Sg} {xs ys : List V} {vs : List Value} {H1 : Heap}, Inv B w0 σ H w -> Zv σ w xs vs -> ZaI fl H xs = some (ys, H1) -> Z7Q H H1 /\ ∃ σ', Inv B w0 σ' H1 w /\ Ext σ w σ' w /\ Zv σ' w ys vs := by
 intro fl
 induction fl with
 | nil =>
  intro H σ xs ys vs H1 h hr hp
  cases xs with
  | nil =>
   simp only [ZaI, Option.some.injEq, Prod.mk.injEq] at hp
   obtain ⟨rfl, rfl⟩ := hp
   exact ⟨Z7Q.refl _, σ, h, Ext.refl _ _, hr⟩
  | cons => simp [ZaI] at hp
 | cons f fl ih =>
  intro H σ xs ys vs H1 h hr hp
  cases xs with
  | nil => simp [ZaI] at hp
  | cons x xs =>
   obtain ⟨v, vs', rfl, hr1, hr2⟩ := hr.ZL
   simp only [ZaI] at hp
   cases h1 : Zcj f H x with
   | none => simp [h1] at hp
   | some r =>
    obtain ⟨y, Ha⟩ := r
    simp only [h1] at hp
    cases h2 : ZaI fl Ha xs with
    | none => simp [h2] at hp
    | some r =>
     obtain ⟨ys', Hb⟩ := r
     simp only [h2, Option.some.injEq, Prod.mk.injEq] at hp
     obtain ⟨rfl, rfl⟩ := hp
     obtain ⟨k1, σ1, i1, e1, r1⟩ := ZtH h hr1 h1
     obtain ⟨k2, σ2, i2, e2, r2⟩ := ih i1 (hr2.ext e1) h2
     exact ⟨k1.trans k2, σ2, i2, e1.trans e2, Zv.Z0Q.2 ⟨r1.ext e2, r2⟩⟩
theorem ZtI (h : Inv B w0 σ H w) {fl : List Fk} {x y : V} {v : Value} (hr : Zv σ w [x] [v]) (hp : Zh7 fl H x = some (y, H1)) : Z7Q H H1 /\ ∃ σ', Inv B w0 σ' H1 w /\ Ext σ w σ' w /\ Zv σ' w [y] [v] := by
 unfold Zh7 at hp
 split at hp
 ·rename_i cs
  cases hl : ZaI fl H cs with
  | none => simp [hl] at hp
  | some r =>
   obtain ⟨ys, Ha⟩ := r
   simp only [hl, Option.map_some, Option.some.injEq, Prod.mk.injEq] at hp
   obtain ⟨rfl, rfl⟩ := hp
   cases hr with
   | agg h1 ho _ =>
    obtain ⟨k1, σ1, i1, e1, r1⟩ := Zyn h h1 hl
    exact ⟨k1, σ1, i1, e1, .agg r1 ho .nil⟩
 ·split at hp
  ·exact ZtH h hr hp
  ·cases hp
theorem Zyd : ∀ {fl : List (List Fk)} {H : Heap} {σ : Sg} {xs ys : List V} {vs : List Value} {H1 : Heap}, Inv B w0 σ H w -> Zv σ w xs vs -> Zbi fl H xs = some (ys, H1) -> Z7Q H H1 /\ ∃ σ', Inv B w0 σ' H1 w /\ Ext σ w σ' w /\ Zv σ' w ys vs := by
 intro fl
 induction fl with
 | nil =>
  intro H σ xs ys vs H1 h hr hp
  cases xs with
  | nil =>
   simp only [Zbi, Option.some.injEq, Prod.mk.injEq] at hp
   obtain ⟨rfl, rfl⟩ := hp
   exact ⟨Z7Q.refl _, σ, h, Ext.refl _ _, hr⟩
  | cons => simp [Zbi] at hp
 | cons f fl ih =>
  intro H σ xs ys vs H1 h hr hp
  cases xs with
  | nil => simp [Zbi] at hp
  | cons x xs =>
   obtain ⟨v, vs', rfl, hr1, hr2⟩ := hr.ZL
   simp only [Zbi] at hp
   cases h1 : Zh7 f H x with
   | none => simp [h1] at hp
   | some r =>
    obtain ⟨y, Ha⟩ := r
    simp only [h1] at hp
    cases h2 : Zbi fl Ha xs with
    | none => simp [h2] at hp
    | some r =>
     obtain ⟨ys', Hb⟩ := r
     simp only [h2, Option.some.injEq, Prod.mk.injEq] at hp
     obtain ⟨rfl, rfl⟩ := hp
     obtain ⟨k1, σ1, i1, e1, r1⟩ := ZtI h hr1 h1
     obtain ⟨k2, σ2, i2, e2, r2⟩ := ih i1 (hr2.ext e1) h2
     exact ⟨k1.trans k2, σ2, i2, e1.trans e2, Zv.Z0Q.2 ⟨r1.ext e2, r2⟩⟩
structure ZyL (ids : List Nat) (H : Heap) : Prop where
 nodup : ids.Nodup
 at_ : ∀ id ∈ ids, ∃ b, H[id]? = some b /\ b.live = true /\ (b.row = false -> ∀ r ∈ Z0u b.xs, r ∈ ids)
theorem Zye : ∀ (n : Nat) {fb : List Bf} {H : Heap} {σ : Sg} {todo seen ids : List Nat} {H2 : Heap}, Inv B w0 σ H w -> Zgh n fb H todo seen = some (H2, ids) -> seen.Nodup ->
  (∀ id ∈ seen, ∃ b, H[id]? = some b /\ b.live = true /\ (b.row = false -> ∀ r ∈ Z0u b.xs, r ∈ seen ++ todo)) ->
  H.length <= H2.length /\ (∀ id ∈ seen ++ todo, id ∈ ids) /\ ZyL ids H2 /\ ∃ σ', Inv B w0 σ' H2 w /\ Ext σ w σ' w := by
 intro n
 induction n with
 | zero => intro fb H σ todo seen ids H2 _ h; cases h
 | succ n ih =>
  intro fb H σ todo seen ids H2 hI h hnd hcl
  cases todo with
  | nil =>
   simp only [Zgh, Option.some.injEq, Prod.mk.injEq] at h
   obtain ⟨rfl, rfl⟩ := h
   exact ⟨Nat.le_refl _, by simp, ⟨hnd, by simpa using hcl⟩, σ, hI, Ext.refl _ _⟩
  | cons id todo =>
   unfold Zgh at h
   by_cases hin : seen.contains id = true
   ·rw [if_pos hin] at h
    have hin' : id ∈ seen := by simpa using hin
    obtain ⟨h1, h2, h3⟩ := ih hI h hnd (fun i hi => by
     obtain ⟨b, k1, k2, k3⟩ := hcl i hi
     exact ⟨b, k1, k2, fun hr r hh => by
      have := k3 hr r hh
      simp only [List.mem_append, List.mem_cons] at this ⊢
      rcases this with hx | rfl | hx
      ·exact .inl hx
      ·exact .inl hin'
      ·exact .inr hx⟩)
    refine ⟨h1, fun i hi => h2 i ?_, h3⟩
    simp only [List.mem_append, List.mem_cons] at hi ⊢
    rcases hi with hx | rfl | hx
    ·exact .inl hx
    ·exact .inl hin'
    ·exact .inr hx
   ·rw [if_neg hin] at h
    have hin' : id ∉ seen := by simpa using hin
    have hnd' : (seen ++ [id]).Nodup := by
     rw [List.nodup_append]
     exact ⟨hnd, by simp, fun a ha b hb => by simp at hb; subst hb; intro e; subst e; exact hin' ha⟩
    have hmem : ∀ {i : Nat} {t : List Nat}, i ∈ seen ++ id :: todo -> i ∈ (seen ++ [id]) ++ (todo ++ t) := by
     intro i t hi
     simp only [List.mem_append, List.mem_cons] at hi ⊢
     rcases hi with hx | hx | hx
     ·exact .inl (.inl hx)
     ·exact .inl (.inr (.inl hx))
     ·exact .inr (.inl hx)
    split at h
    ·rename_i b fresh fb' hb
     split at h
     ·rename_i hc
      simp only [Bool.and_eq_true] at hc
      generalize hH' : (if fresh then H else bump H [id]) = H' at h
      have hk : Z7Q H H' /\ ∃ σ', Inv B w0 σ' H' w /\ Ext σ w σ' w := by
       cases fresh with
       | true => rw [if_pos rfl] at hH'; subst hH'; exact ⟨Z7Q.refl _, σ, hI, Ext.refl _ _⟩
       | false =>
        rw [if_neg (by simp)] at hH'
        subst hH'
        obtain ⟨i1, i2⟩ := hI.freeze [id]
        exact ⟨Z7Q.bump _ _, _, i1, i2⟩
      obtain ⟨hk, σ1, hI1, hE1⟩ := hk
      obtain ⟨h1, h2, h3, σ2, h4, h5⟩ := ih hI1 h hnd' (fun i hi => by
       simp only [List.mem_append, List.mem_singleton] at hi
       have key : ∃ b0, H[i]? = some b0 /\ b0.live = true /\ (b0.row = false -> ∀ r ∈ Z0u b0.xs, r ∈ seen ++ id :: todo) := by
        rcases hi with hi | rfl
        ·exact hcl i hi
        ·exact ⟨b, hb, hc.1, fun hr => by rw [hc.2] at hr; cases hr⟩
       obtain ⟨b0, k1, k2, k3⟩ := key
       obtain ⟨b', m1, m2, m3, m4⟩ := hk.at_ i b0 k1
       refine ⟨b', m1, m2.trans k2, fun hr r hh => ?_⟩
       rw [m4] at hh
       have := hmem (t := []) (k3 (m3 ▸ hr) r hh)
       simpa using this)
      refine ⟨Nat.le_trans hk.len h1, fun i hi => h2 i ?_, h3, σ2, h4, hE1.trans h5⟩
      have := hmem (t := []) hi
      simpa using this
     ·cases h
    ·rename_i b fl fb' hb
     split at h
     ·rename_i hc
      simp only [Bool.and_eq_true, Bool.not_eq_true'] at hc
      split at h
      ·rename_i x hx
       split at h
       ·rename_i y H1 hp
        split at h
        ·rename_i b1 hb1
         split at h
         ·rename_i hoky
          obtain ⟨L, hL, hok⟩ := hI.boxes id b hb hc.1
          obtain ⟨us, r1, r2, r3, r4⟩ := hok.Z93
          rw [hx] at r1
          obtain ⟨u, us', rfl, r5, r6⟩ := r1.ZL
          obtain ⟨hk, σ1, hI1, hE1, hy⟩ := ZtI hI r5 hp
          obtain ⟨b1', m1, m2, m3, m4⟩ := hk.at_ id b hb
          rw [hb1] at m1
          cases m1
          have hlive1 : b1.live = true := m2.trans hc.1
          have hrow1 : b1.row = false := m3.trans hc.2
          have hx1 : b1.xs = [x] := m4.trans hx
          have hsw : ∃ σ2, Inv B w0 σ2 (H1.set id { b1 with xs := [y] }) w /\ Ext σ1 w σ2 w := by
           obtain ⟨L1, hL1, hok1⟩ := hI1.boxes id b1 hb1 hlive1
           obtain ⟨us1, s1, s2, s3, s4⟩ := hok1.Z93
           rw [hx1] at s1
           obtain ⟨u1, us1', rfl, s5, s6⟩ := s1.ZL
           cases s6.Z0w
           cases r6.Z0w
           have hu : u1.cells.toList = u.cells.toList := by
            obtain ⟨L', hL', he, hLL⟩ := hE1.box id L hL
            rw [hL1] at hL'
            cases hL'
            have ht1 : L1.tot = 1 := by rw [hok1.tot, hx1]; rfl
            have ht : L.tot = 1 := by rw [hok.tot, hx]; rfl
            have hLe : L1 = L := by
             rcases hLL with e | e
             ·exact e
             ·omega
            subst hLe
            rcases r4.2 with ⟨hv, hn⟩ | ⟨g, cap, cur, tg, hv, _, hg, _, _, _, _, hcur⟩
            ·rw [hx] at hn; simp at hn
            ·rcases s4.2 with ⟨hv', hn'⟩ | ⟨g', cap', cur', tg', hv', _, hg', _, _, _, _, hcur'⟩
             ·rw [hx1] at hn'; simp at hn'
             ·rw [hv] at hv'
              simp only [Value.slice.injEq, Option.some.injEq, Addr.mk.injEq, and_true] at hv'
              obtain ⟨rfl, _, _⟩ := hv'
              rw [hg] at hg'
              simp only [Option.some.injEq, Obj.cells.injEq] at hg'
              obtain ⟨rfl, _⟩ := hg'
              rw [Z1X] at hcur hcur'
              rw [<- hcur, <- hcur', hx, hx1]
           obtain ⟨i1, i2⟩ := hI1.upd hb1 hlive1 hL1 (grownBy_refl w _) { b1 with xs := [y] } hlive1 L1 rfl (.inl rfl) rfl (by simp [hx1]) (fun g hg => .inl hg) (fun _ _ _ _ => rfl)
            (fun ex => ⟨by rw [hok1.tot, hx1]; rfl, ⟨[u], hy.ext ex, fun z hz => by simp at hz; subst hz; rw [<- s2 u1 (by simp)]; exact (congrArg List.length hu).symm, fun z hz => s3 z (by rw [Z1X] at hz ⊢; rw [hu]; exact hz), by
             rw [Z1X, <- hu, <- Z1X]; simpa [hx1] using s4⟩, hok1.Zco, hok1.esz, by simpa using hoky, fun hh => by simp only at hh; rw [hrow1] at hh; cases hh⟩)
           exact ⟨_, i1, i2⟩
          obtain ⟨σ2, hI2, hE2⟩ := hsw
          have hlen1 : id < H1.length := (List.getElem?_eq_some_iff.1 hb1).1
          obtain ⟨h1, h2, h3, σ3, h4, h5⟩ := ih hI2 h hnd' (fun i hi => by
           simp only [List.mem_append, List.mem_singleton] at hi
           by_cases hid : i = id
           ·subst hid
            refine ⟨{ b1 with xs := [y] }, by simp [hlen1], hlive1, fun _ r hh => ?_⟩
            simp only [Z0u, List.append_nil] at hh
            simp [hh]
           ·have hi' : i ∈ seen := by rcases hi with hi | hi; exact hi; exact absurd hi hid
            obtain ⟨b0, k1, k2, k3⟩ := hcl i hi'
            obtain ⟨b', q1, q2, q3, q4⟩ := hk.at_ i b0 k1
            refine ⟨b', by rw [List.getElem?_set_ne (fun e => hid e.symm)]; exact q1, q2.trans k2, fun hr r hh => ?_⟩
            rw [q4] at hh
            exact hmem (k3 (q3 ▸ hr) r hh))
          refine ⟨Nat.le_trans hk.len (by simpa using h1), fun i hi => h2 i (hmem hi), h3, σ3, h4, hE1.trans (hE2.trans h5)⟩
         ·cases h
        ·cases h
       ·cases h
      ·cases h
     ·cases h
    ·cases h
end
end Go.Proofs.YtefmbgacbhifdaaGreat.Le
namespace Go.Proofs.YtefmbgacbhifdaaGreat.Le
open Go.RowKit (Below)
def Sg.ren (σ : Sg) (ids : List Nat) : Sg := ⟨fun j => (ids[j]?).bind σ.box, σ.fz⟩
theorem Zov {ids : List Nat} {id : Nat} (h : id ∈ ids) : ids[ids.idxOf id]? = some id := by
 have hlt := List.idxOf_lt_length_of_mem h
 rw [List.getElem?_eq_getElem hlt, List.getElem_idxOf]
theorem ZrW {σ : Sg} {ids : List Nat} {id : Nat} (h : id ∈ ids) : (σ.ren ids).box (ids.idxOf id) = σ.box id := by
 simp [Sg.ren, Zov h]
theorem ZgU {w w' : World} {B e sz n : Nat} {v : Value} {us : List Value} (h : ZiZ w B e sz v n us) (hb : ∀ g, v.ownBlock = some g -> w'.heap[g]? = w.heap[g]?) : ZiZ w' B e sz v n us := by
 refine ⟨h.1, ?_⟩
 rcases h.2 with hn | ⟨g, cap, cur, tg, rfl, h1, h2, rest⟩
 ·exact .inl hn
 ·exact .inr ⟨g, cap, cur, tg, rfl, h1, by rw [hb g (by simp [Value.ownBlock])]; exact h2, rest⟩
theorem Z3l (ρ : Nat -> Nat) (b : Box) : (Z3b ρ b).live = b.live /\ (Z3b ρ b).row = b.row /\ (Z3b ρ b).Zco = b.Zco /\ (Z3b ρ b).elem = b.elem /\ (Z3b ρ b).esz = b.esz /\ (Z3b ρ b).floor = b.floor /\ (Z3b ρ b).xs.length = b.xs.length := by
 unfold Z3b
 split
 ·exact ⟨rfl, rfl, rfl, rfl, rfl, rfl, rfl⟩
 ·exact ⟨rfl, rfl, rfl, rfl, rfl, rfl, Zd6 _ _⟩
theorem Zjy.ren {σ σ' : Sg} {w w' : World} {B : Nat} {b : Box} {L : Loc} (ρ : Nat -> Nat) (h : Zjy σ w B b L) (hfz : ∀ b c, σ.fz b c -> σ'.fz b c /\ w'.cell? ⟨b, c, none⟩ = w.cell? ⟨b, c, none⟩)
  (hn : b.row = false -> ∀ id ∈ Z0u b.xs, σ'.box (ρ id) = σ.box id) (hb : ∀ g, L.v.ownBlock = some g -> w'.heap[g]? = w.heap[g]?) : Zjy σ' w' B (Z3b ρ b) L := by
 obtain ⟨e1, e2, e3, e4, e5, e6, e7⟩ := Z3l ρ b
 obtain ⟨us, r1, r2, r3, r4⟩ := h.Z93
 have hr : Zv σ' w' (Z3b ρ b).xs us := by
  unfold Z3b
  split
  ·rename_i hrow; exact r1.bare hfz ((Z2d _).2 (h.fzs hrow))
  ·rename_i hrow; exact ZhG r1 hfz (hn (by simpa using hrow))
 refine ⟨by rw [e7]; exact h.tot, ⟨us, hr, r2, r3, by rw [e4, e7]; exact ZgU r4 hb⟩, by rw [e3]; exact h.Zco, by rw [e5]; exact h.esz, ?_, ?_⟩
 ·intro x hx
  unfold Z3b at hx
  split at hx
  ·exact h.oks x hx
  ·simp only [ZlU, List.mem_map] at hx
   obtain ⟨y, hy, rfl⟩ := hx
   rw [ZvV]
   exact h.oks y hy
 ·intro hrow x hx
  rw [e2] at hrow
  unfold Z3b at hx
  rw [if_pos hrow] at hx
  exact h.fzs hrow x hx
section
variable {B : Nat} {w0 : Start} {σ : Sg} {H : Heap} {w : World} {ids : List Nat}
theorem Zti (H : Heap) (ids : List Nat) (j : Nat) : (Zrm H ids)[j]? = (ids[j]?).map fun id => Z3b (ids.idxOf ·) ((H[id]?).getD Zdq) := by
 simp [Zrm]
theorem ZlG {l : List Nat} (h : l.Nodup) {i j x : Nat} (hi : l[i]? = some x) (hj : l[j]? = some x) : i = j := by
 obtain ⟨h1, e1⟩ := List.getElem?_eq_some_iff.1 hi
 obtain ⟨h2, e2⟩ := List.getElem?_eq_some_iff.1 hj
 exact (List.getElem_inj h).1 (e1.trans e2.symm)
theorem Zg0 {xs : List V} {vs : List Value} (hr : Zv σ w xs vs) (hm : ∀ id ∈ Z0u xs, id ∈ ids) : Zv (σ.ren ids) w (Z94 (ids.idxOf ·) xs) vs :=
 ZhG hr (fun b c hh => ⟨hh, rfl⟩) fun id hid => ZrW (hm id hid)
theorem ZxA (h : Inv B w0 σ H w) (hs : ZyL ids H) (w1 : Start) (hbelow : Below B w1.w w) (hold : ∀ b c, σ.fz b c -> b < B -> w1.fz b c)
  (hk : ∀ b, w1.keep b -> b < w.heap.size /\ w.heap[b]? = w1.w.heap[b]? /\ (∀ id ∈ ids, ∀ L, σ.box id = some L -> L.v.ownBlock ≠ some b) /\ ∀ c, σ.fz b c -> w1.fz b c) : Inv B w1 (σ.ren ids) (Zrm H ids) w := by
 have hbox : ∀ {j : Nat} {L : Loc}, (σ.ren ids).box j = some L -> ∃ id, ids[j]? = some id /\ σ.box id = some L := by
  intro j L hL
  simp only [Sg.ren] at hL
  cases hj : ids[j]? with
  | none => simp [hj] at hL
  | some id => simp only [hj, Option.bind_some] at hL; exact ⟨id, rfl, hL⟩
 have hget : ∀ {j : Nat} {b' : Box}, (Zrm H ids)[j]? = some b' -> ∃ id b, ids[j]? = some id /\ H[id]? = some b /\ b.live = true /\ (b.row = false -> ∀ r ∈ Z0u b.xs, r ∈ ids) /\ b' = Z3b (ids.idxOf ·) b := by
  intro j b' hb
  rw [Zti] at hb
  cases hj : ids[j]? with
  | none => simp [hj] at hb
  | some id =>
   obtain ⟨b, k1, k2, k3⟩ := hs.at_ id (List.mem_of_getElem? hj)
   simp only [hj, Option.map_some, k1, Option.getD_some, Option.some.injEq] at hb
   exact ⟨id, b, rfl, k1, k2, k3, hb.symm⟩
 refine ⟨hbelow, h.size, ?_, ?_, ?_, h.cells, ?_, ?_, hold, fun b hb => ?_⟩
 ·intro j L hL
  obtain ⟨id, h1, h2⟩ := hbox hL
  obtain ⟨b, k1, k2, k3⟩ := hs.at_ id (List.mem_of_getElem? h1)
  refine ⟨Z3b (ids.idxOf ·) b, by rw [Zti, h1]; simp [k1], ?_⟩
  rw [(Z3l _ b).1]; exact k2
 ·intro j b' hb hl
  obtain ⟨id, b, h1, h2, h3, h4, rfl⟩ := hget hb
  obtain ⟨L, hL, hok⟩ := h.boxes id b h2 h3
  refine ⟨L, by simp [Sg.ren, h1, hL], hok.ren _ (fun b c hh => ⟨hh, rfl⟩) (fun hr r hh => ZrW (h4 hr r hh)) (fun _ _ => rfl)⟩
 ·intro j j' b1 b2 L1 L2 g h1 h2 l1 l2 s1 s2 g1 g2
  obtain ⟨i1, e1, t1⟩ := hbox s1
  obtain ⟨i2, e2, t2⟩ := hbox s2
  obtain ⟨i1', c1, f1, p1, p2, _⟩ := hget h1
  obtain ⟨i2', c2, f2, q1, q2, _⟩ := hget h2
  rw [e1] at f1; cases f1
  rw [e2] at f2; cases f2
  have := h.apart i1 i2 c1 c2 L1 L2 g p1 q1 p2 q2 t1 t2 g1 g2
  subst this
  exact ZlG hs.nodup e1 e2
 ·intro b c hc j b' L hb hl hL hg
  obtain ⟨id, hid, hL'⟩ := hbox hL
  obtain ⟨id', b0, f1, p1, p2, _, rfl⟩ := hget hb
  rw [hid] at f1; cases f1
  rw [(Z3l _ b0).2.2.2.2.2.1]
  exact h.floor b c hc id b0 L p1 p2 hL' hg
 ·intro j b' hb hl
  obtain ⟨id, b0, f1, p1, p2, _, rfl⟩ := hget hb
  obtain ⟨_, _, _, _, _, e6, e7⟩ := Z3l (ids.idxOf ·) b0
  rw [e6, e7]
  exact h.low id b0 p1 p2
 ·obtain ⟨k1, k2, k3, k4⟩ := hk b hb
  refine ⟨k1, k2, fun j L hL hg => ?_, k4⟩
  obtain ⟨id, hid, hL'⟩ := hbox hL
  exact k3 id (List.mem_of_getElem? hid) L hL' hg
def ZlX (ids : List Nat) (n i : Nat) : Option Nat := if i < n then (if i ∈ ids then some (ids.idxOf i) else none) else some (ids.length + (i - n))
theorem Zzk : ∀ {ids : List Nat} {H bs : Heap} (i : Nat), ids.Nodup -> (∀ id ∈ ids, id < H.length) -> ids.length <= bs.length ->
  (Zyc H ids bs)[i]? = match ZlX ids H.length i with | some j => bs[j]? | none => H[i]? := by
 intro ids
 induction ids with
 | nil =>
  intro H bs i _ _ _
  unfold ZlX
  simp only [Zyc, List.getElem?_append, List.not_mem_nil, if_false, List.length_nil, Nat.zero_add]
  split <;> rfl
 | cons id ids ih =>
  intro H bs i hn hl hb
  cases bs with
  | nil => simp at hb
  | cons b bs =>
   rw [List.nodup_cons] at hn
   rw [Zyc, ih i hn.2 (fun j hj => by simpa using hl j (by simp [hj])) (by simpa using hb)]
   have hid := hl id (by simp)
   unfold ZlX
   simp only [List.length_set, List.mem_cons, List.length_cons]
   by_cases hi : i < H.length
   ·simp only [hi, if_true]
    by_cases he : i = id
    ·subst he
     simp [hn.1, hid]
    ·by_cases hm : i ∈ ids
     ·simp only [hm, or_true, if_true]
      have hne : (id == i) = false := by simp only [beq_eq_false_iff_ne]; exact fun e => he e.symm
      simp [List.idxOf_cons, hne]
     ·simp only [hm, he, or_self, if_false]
      rw [List.getElem?_set_ne (fun e => he e.symm)]
   ·simp only [hi, if_false]
    rw [show ids.length + 1 + (i - H.length) = (ids.length + (i - H.length)) + 1 by omega]
    rfl
theorem Zsd {H3 : Heap} (i : Nat) (hn : ids.Nodup) (hl : ∀ id ∈ ids, id < H.length) (hb : ids.length <= H3.length) :
  (Za3 H ids H3)[i]? = match ZlX ids H.length i with | some j => (H3[j]?).map (Z3b (Zf1 ids H.length)) | none => H[i]? := by
 unfold Za3
 rw [Zzk i hn hl (by simpa using hb)]
 split <;> simp
theorem ZAd {n i i' j : Nat} (hn : ids.Nodup) (h1 : ZlX ids n i = some j) (h2 : ZlX ids n i' = some j) : i = i' := by
 unfold ZlX at h1 h2
 have key : ∀ {x : Nat}, x ∈ ids -> ids.idxOf x < ids.length := fun h => List.idxOf_lt_length_of_mem h
 split at h1 <;> split at h2
 ·split at h1 <;> split at h2
  ·rename_i m1 m2
   simp only [Option.some.injEq] at h1 h2
   have e1 := Zov m1
   have e2 := Zov m2
   rw [h1] at e1; rw [h2] at e2
   rw [e1] at e2
   exact Option.some.inj e2
  ·cases h2
  ·cases h1
  ·cases h1
 ·split at h1
  ·rename_i m1
   simp only [Option.some.injEq] at h1 h2
   have := key m1
   omega
  ·cases h1
 ·split at h2
  ·rename_i m2
   simp only [Option.some.injEq] at h1 h2
   have := key m2
   omega
  ·cases h2
 ·simp only [Option.some.injEq] at h1 h2
  omega
theorem Zyb {n : Nat} (hn : ids.Nodup) (hl : ∀ id ∈ ids, id < n) (j : Nat) : ZlX ids n (Zf1 ids n j) = some j := by
 unfold Zf1 ZlX
 by_cases hj : j < ids.length
 ·rw [if_pos hj]
  have hg : ids.getD j 0 = ids[j] := by simp [List.getD, hj]
  rw [hg]
  have hm : ids[j] ∈ ids := List.getElem_mem hj
  rw [if_pos (hl _ hm), if_pos hm]
  congr 1
  exact ZlG hn (Zov hm) (List.getElem?_eq_getElem hj)
 ·rw [if_neg hj, if_neg (by omega)]
  congr 1
  omega
def Sg.back (σ σ1 : Sg) (ids : List Nat) (n : Nat) : Sg := ⟨fun i => match ZlX ids n i with | some j => σ1.box j | none => σ.box i, σ1.fz⟩
theorem Ztd {σ1 : Sg} {n : Nat} (hn : ids.Nodup) (hl : ∀ id ∈ ids, id < n) (j : Nat) : (σ.back σ1 ids n).box (Zf1 ids n j) = σ1.box j := by
 simp only [Sg.back, Zyb hn hl]
def outer (σ : Sg) (ids : List Nat) (w0 : Start) (b : Nat) : Prop := w0.keep b \/ ∃ id L, id ∉ ids /\ σ.box id = some L /\ L.v.ownBlock = some b
theorem ZAK {σ1 : Sg} {H3 : Heap} {w' : World} (h : Inv B w0 σ H w) (hs : ZyL ids H) (h1 : Inv B ⟨w, σ.fz, outer σ ids w0⟩ σ1 H3 w') (hE : Ext (σ.ren ids) w σ1 w') (hlen : ids.length <= H3.length) :
  Inv B w0 (σ.back σ1 ids H.length) (Za3 H ids H3) w' /\ Ext σ w (σ.back σ1 ids H.length) w' := by
 have hlt : ∀ id ∈ ids, id < H.length := fun id hid => by
  obtain ⟨b, k1, _⟩ := hs.at_ id hid
  exact (List.getElem?_eq_some_iff.1 k1).1
 have hfz : ∀ b c, σ.fz b c -> σ1.fz b c /\ w'.cell? ⟨b, c, none⟩ = w.cell? ⟨b, c, none⟩ := hE.fz
 have e : Ext σ w (σ.back σ1 ids H.length) w' := by
  refine ⟨fun i L hL => ?_, hfz⟩
  have hi := h.Zxu hL
  simp only [Sg.back]
  by_cases hm : i ∈ ids
  ·have ht : ZlX ids H.length i = some (ids.idxOf i) := by simp [ZlX, hi, hm]
   simp only [ht]
   exact hE.box _ L (by rw [ZrW hm]; exact hL)
  ·have ht : ZlX ids H.length i = none := by simp [ZlX, hi, hm]
   simp only [ht]
   exact ⟨L, hL, rfl, .inl rfl⟩
 have hget : ∀ i, (Za3 H ids H3)[i]? = match ZlX ids H.length i with | some j => (H3[j]?).map (Z3b (Zf1 ids H.length)) | none => H[i]? := fun i => Zsd i hs.nodup hlt hlen
 have hout : ∀ {i : Nat} {L : Loc} {g : Nat}, ZlX ids H.length i = none -> σ.box i = some L -> L.v.ownBlock = some g -> outer σ ids w0 g := by
  intro i L g ht hL hg
  refine .inr ⟨i, L, ?_, hL, hg⟩
  intro hm
  simp [ZlX, hlt i hm, hm] at ht
 have hcase : ∀ {i : Nat} {b' : Box}, (Za3 H ids H3)[i]? = some b' -> (∃ j b, ZlX ids H.length i = some j /\ H3[j]? = some b /\ b' = Z3b (Zf1 ids H.length) b) \/ (ZlX ids H.length i = none /\ H[i]? = some b') := by
  intro i b' hb
  rw [hget] at hb
  cases ht : ZlX ids H.length i with
  | none => rw [ht] at hb; exact .inr ⟨rfl, hb⟩
  | some j =>
   rw [ht] at hb
   simp only [Option.map_eq_some_iff] at hb
   obtain ⟨b, h2, h3⟩ := hb
   exact .inl ⟨j, b, rfl, h2, h3.symm⟩
 refine ⟨⟨h.below.trans h1.below, h1.size, ?_, ?_, ?_, h1.cells, ?_, ?_, fun b c hc hlt' => h.old b c (h1.old b c hc hlt') hlt', fun b hb => ?_⟩, e⟩
 ·intro i L hL
  simp only [Sg.back] at hL
  rw [hget]
  cases ht : ZlX ids H.length i with
  | none => rw [ht] at hL; exact h.dom i L hL
  | some j =>
   rw [ht] at hL
   obtain ⟨b, k1, k2⟩ := h1.dom j L hL
   exact ⟨Z3b (Zf1 ids H.length) b, by simp [k1], by rw [(Z3l _ b).1]; exact k2⟩
 ·intro i b' hb hl
  rcases hcase hb with ⟨j, b, ht, hj, rfl⟩ | ⟨ht, hi⟩
  ·rw [(Z3l _ b).1] at hl
   obtain ⟨L, hL, hok⟩ := h1.boxes j b hj hl
   refine ⟨L, by simp only [Sg.back, ht]; exact hL, hok.ren _ (fun b c hh => ⟨hh, rfl⟩) (fun _ r _ => Ztd hs.nodup hlt r) (fun _ _ => rfl)⟩
  ·obtain ⟨L, hL, hok⟩ := h.boxes i b' hi hl
   obtain ⟨us, r1, r2, r3, r4⟩ := hok.Z93
   refine ⟨L, by simp only [Sg.back, ht]; exact hL, hok.tot, ⟨us, r1.ext e, r2, r3, ZgU r4 fun g hg => ?_⟩, hok.Zco, hok.esz, hok.oks, hok.fzs⟩
   exact (h1.kept g (hout ht hL hg)).2.1
 ·intro i i' b1 b2 L1 L2 g p1 p2 l1 l2 s1 s2 g1 g2
  simp only [Sg.back] at s1 s2
  rcases hcase p1 with ⟨j, c1, t1, q1, rfl⟩ | ⟨t1, q1⟩ <;> rcases hcase p2 with ⟨j', c2, t2, q2, rfl⟩ | ⟨t2, q2⟩
  ·rw [t1] at s1; rw [t2] at s2
   rw [(Z3l _ _).1] at l1 l2
   have := h1.apart j j' c1 c2 L1 L2 g q1 q2 l1 l2 s1 s2 g1 g2
   subst this
   exact ZAd hs.nodup t1 t2
  ·rw [t1] at s1; rw [t2] at s2
   exact absurd g1 ((h1.kept g (hout t2 s2 g2)).2.2.1 j L1 s1)
  ·rw [t1] at s1; rw [t2] at s2
   exact absurd g2 ((h1.kept g (hout t1 s1 g1)).2.2.1 j' L2 s2)
  ·rw [t1] at s1; rw [t2] at s2
   exact h.apart i i' b1 b2 L1 L2 g q1 q2 l1 l2 s1 s2 g1 g2
 ·intro b c hc i b' L hb hl hL hg
  simp only [Sg.back] at hL hc
  rcases hcase hb with ⟨j, b0, ht, hj, rfl⟩ | ⟨ht, hi⟩
  ·rw [ht] at hL
   rw [(Z3l _ b0).1] at hl
   rw [(Z3l _ b0).2.2.2.2.2.1]
   exact h1.floor b c hc j b0 L hj hl hL hg
  ·rw [ht] at hL
   exact h.floor b c ((h1.kept b (hout ht hL hg)).2.2.2 c hc) i b' L hi hl hL hg
 ·intro i b' hb hl
  rcases hcase hb with ⟨j, b0, ht, hj, rfl⟩ | ⟨ht, hi⟩
  ·obtain ⟨e1, _, _, _, _, e6, e7⟩ := Z3l (Zf1 ids H.length) b0
   rw [e6, e7]
   rw [e1] at hl
   exact h1.low j b0 hj hl
  ·exact h.low i b' hi hl
 ·obtain ⟨k1, k2, k3, k4⟩ := h.kept b hb
  obtain ⟨m1, m2, m3, m4⟩ := h1.kept b (.inl hb)
  refine ⟨m1, m2.trans k2, fun i L hL hg => ?_, fun c hc => k4 c (m4 c hc)⟩
  simp only [Sg.back] at hL
  cases ht : ZlX ids H.length i with
  | none => rw [ht] at hL; exact k3 i L hL hg
  | some j => rw [ht] at hL; exact m3 j L hL hg
end
def ZsX (P : Program) (E : Env) (f : FuncId) (as : List V) (H0 : Heap) (r : V) (H1 : Heap) : Prop :=
 ∀ (B : Nat) (w0 : Start) (σ : Sg) (w : World) (vs : List Value), Inv B w0 σ H0 w -> Z0C E σ w -> Zv σ w as vs ->
  Calls P f vs.toArray w fun e w' => ∃ u σ', e = .returned u /\ Inv B w0 σ' H1 w' /\ Ext σ w σ' w' /\ Zv σ' w' [r] [u]
theorem ZsB {B : Nat} {w0 : Start} {σ : Sg} {H H2 : Heap} {w : World} {fa : List (List Fk)} {fb : List Bf} {k : Nat} {args as : List V} {vs : List Value} {ids : List Nat} (h : Inv B w0 σ H w) (hr : Zv σ w args vs)
  (hp : pack fa fb k args H = some (ids, as, H2)) : ZyL ids H2 /\ (∀ id ∈ Z0u as, id ∈ ids) /\ H.length <= H2.length /\ ∃ σ', Inv B w0 σ' H2 w /\ Ext σ w σ' w /\ Zv σ' w as vs := by
 unfold pack at hp
 split at hp
 ·rename_i as' H1 ha
  split at hp
  ·rename_i H2' ids' hh
   simp only [Option.some.injEq, Prod.mk.injEq] at hp
   obtain ⟨rfl, rfl, rfl⟩ := hp
   obtain ⟨k1, σ1, i1, e1, r1⟩ := Zyd h hr ha
   obtain ⟨q1, q2, q3, σ2, i2, e2⟩ := Zye 1000 i1 hh (by simp) (by simp)
   exact ⟨q3, fun id hid => q2 id (by simp [hid]), Nat.le_trans k1.len q1, σ2, i2, e1.trans e2, r1.ext e2⟩
  ·cases hp
 ·cases hp
theorem ZxY {P : Program} {E : Env} {B : Nat} {w0 : Start} {σ : Sg} {H H' : Heap} {w : World} {f : FuncId} {hs : ZuE} {args : List V} {vs : List Value} {x : V} (hh : ∀ as H0 r H1, hs.run as H0 = some (r, H1) -> ZsX P E f as H0 r H1)
  (hc : Zn0 hs args H = some (x, H')) (h : Inv B w0 σ H w) (hg : Z0C E σ w) (hr : Zv σ w args vs) :
  Calls P f vs.toArray w fun e w' => ∃ u σ', e = .returned u /\ Inv B w0 σ' H' w' /\ Ext σ w σ' w' /\ Zv σ' w' [x] [u] := by
 unfold Zn0 at hc
 split at hc
 ·rename_i ids as H2 hp
  split at hc
  ·rename_i r H3 hrun
   split at hc
   ·rename_i hlen
    simp only [Option.some.injEq, Prod.mk.injEq] at hc
    obtain ⟨rfl, rfl⟩ := hc
    obtain ⟨hs', hm, _, σ1, hI1, hE1, hr1⟩ := ZsB h hr hp
    have hlt : ∀ id ∈ ids, id < H2.length := fun id hid => by
     obtain ⟨b, k1, _⟩ := hs'.at_ id hid
     exact (List.getElem?_eq_some_iff.1 k1).1
    have hsub : Inv B ⟨w, σ1.fz, outer σ1 ids w0⟩ (σ1.ren ids) (Zrm H2 ids) w := by
     refine ZxA hI1 hs' _ (Below.refl _ _) (fun b c hc _ => hc) (fun b hb => ?_)
     rcases hb with hb | ⟨id, L, hid, hL, hgL⟩
     ·obtain ⟨k1, k2, k3, k4⟩ := hI1.kept b hb
      exact ⟨k1, rfl, fun id _ L hL => k3 id L hL, fun c hc => hc⟩
     ·obtain ⟨bx, m1, m2⟩ := hI1.dom id L hL
      obtain ⟨L', hL', hok⟩ := hI1.boxes id bx m1 m2
      rw [hL] at hL'; cases hL'
      refine ⟨(hok.block_lt hgL).2, rfl, fun i hi L' hL' hg' => ?_, fun c hc => hc⟩
      obtain ⟨bx', n1, n2⟩ := hI1.dom i L' hL'
      have := hI1.apart id i bx bx' L L' b m1 n1 m2 n2 hL hL' hgL hg'
      subst this
      exact hid hi
    have hg1 : Z0C E (σ1.ren ids) w := (hg.ext hE1).bare (fun b c hh => ⟨hh, rfl⟩)
    refine (hh _ _ _ _ hrun B _ (σ1.ren ids) w vs hsub hg1 (Zg0 hr1 hm)).mono ?_
    rintro e w' ⟨u, σ2, rfl, hI2, hE2, hr2⟩
    obtain ⟨hI3, hE3⟩ := ZAK hI1 hs' hI2 hE2 hlen
    exact ⟨u, _, rfl, hI3, hE1.trans hE3, Zx2 hr2 (fun b c hh => ⟨hh, rfl⟩) (fun id _ => Ztd hs'.nodup hlt id)⟩
   ·cases hc
  ·cases hc
 ·cases hc
end Go.Proofs.YtefmbgacbhifdaaGreat.Le
