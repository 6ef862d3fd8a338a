/-
  A map from keys to bools that holds true alone: a set of keys (made by the call itself): look-up and store.
-/
import Derived.Maps.Own
namespace Go.Proofs.YtkepnndakhpgoaaGreatDoor
open Go Go.Maps Go.MapKept Go.ChangeMaps Go.RowKit
set_option linter.unusedVariables false

/-- Block b is a map of at most n entries, all true, whose keys are those of S. -/
def MapSet (P : Program) (k : TypeId) (w : World) (b n : Nat) (S : Value → Prop) : Prop :=
  ∃ es clock, w.heap[b]? = some (.map es clock) ∧ Stamped es clock ∧ es.size ≤ n ∧ (∀ x ∈ es.toList, (∃ l, keyOf P k x.key = some l) ∧ x.val = .bool true) ∧ ∀ v, S v ↔ ∃ x ∈ es.toList, x.key = v

variable {P : Program} {k : TypeId} {w : World} {b n : Nat} {S : Value → Prop}
theorem MapSet.made (w : World) (P : Program) (k : TypeId) : MapSet P k (w.alloc (.map #[] 0)) w.heap.size 0 (fun _ => False) :=
  ⟨#[], 0, (MapKept.heap_alloc w _).1, stamped_empty 0, Nat.le_refl _, by simp, by simp⟩
theorem MapSet.lt (h : MapSet P k w b n S) : b < w.heap.size := by
  obtain ⟨es, clock, hb, _⟩ := h
  exact (Array.getElem?_eq_some_iff.1 hb).1
theorem MapSet.same {w' : World} (h : MapSet P k w b n S) (hb' : w'.heap[b]? = w.heap[b]?) : MapSet P k w' b n S := by
  obtain ⟨es, clock, hb, h⟩ := h
  exact ⟨es, clock, hb'.trans hb, h⟩
theorem MapSet.congr {S' : Value → Prop} (h : MapSet P k w b n S) (hs : ∀ v, S' v ↔ S v) : MapSet P k w b n S' := by
  obtain ⟨es, clock, hb, h1, h2, h3, h4⟩ := h
  exact ⟨es, clock, hb, h1, h2, h3, fun v => (hs v).trans (h4 v)⟩
theorem MapSet.mono (h : MapSet P k w b n S) {n' : Nat} (hn : n ≤ n') : MapSet P k w b n' S := by
  obtain ⟨es, clock, hb, h1, h2, h3⟩ := h
  exact ⟨es, clock, hb, h1, Nat.le_trans h2 hn, h3⟩
theorem MapSet.alloc (h : MapSet P k w b n S) (o : Obj) : MapSet P k (w.alloc o) b n S := h.same (heap_alloc_old w o b h.lt)
theorem MapSet.lookup {t e : TypeId} (h : MapSet P k w b n S) (K : Keyed P k) (ht : P.underlying t = some (.map k e)) (hz : (zeroValue e).run P w = .ok (.bool false) w) {key : Value} {kl : Lit} (hkey : keyOf P k key = some kl) :
    ∃ x : Bool, (Instr.lookup t (.map (some b)) key false).run P w = .ok (.bool x) w ∧ (x = true ↔ S key) := by
  obtain ⟨es, clock, hb, h1, h2, h3, h4⟩ := h
  rcases K.find w hkey es.toList (fun x hx => (h3 x hx).1) with ⟨g1, g2⟩ | ⟨j, e0, g1, g2, g3⟩
  · refine ⟨false, by simp [Instr.lookup, run_underlying ht, MapKept.run_getObj_map hb, K.check w _ hkey, g1, hz, Result.andThen], ?_⟩
    constructor
    · intro hf; cases hf
    · intro hs
      obtain ⟨x, hx, hk⟩ := (h4 key).1 hs
      exact absurd hk (g2 x hx)
  · have hm := List.mem_of_getElem? g2
    have hv := (h3 e0 hm).2
    refine ⟨true, by simp [Instr.lookup, run_underlying ht, MapKept.run_getObj_map hb, K.check w _ hkey, g1, hv, Result.andThen], ?_⟩
    exact ⟨fun _ => (h4 key).2 ⟨e0, hm, g3⟩, fun _ => rfl⟩
theorem MapSet.store {t e : TypeId} (h : MapSet P k w b n S) (K : Keyed P k) (ht : P.underlying t = some (.map k e)) (hn : n < maxLen) {key : Value} {kl : Lit} (hkey : keyOf P k key = some kl) :
    ∃ w', (Instr.mapUpdate t (.map (some b)) key (.bool true)).run P w = .ok () w' ∧ MapSet P k w' b (n + 1) (fun v => v = key ∨ S v) ∧ w.grownBy w' (some b) := by
  obtain ⟨es, clock, hb, h1, h2, h3, h4⟩ := h
  have hg : ∀ o : Obj, w.grownBy (setBlock w b o) (some b) := fun o => ⟨rfl, rfl, rfl, by simp [setBlock], fun i _ hi => heap_setBlock_other hb _ (fun e => hi (by rw [e]))⟩
  rcases K.find w hkey es.toList (fun x hx => (h3 x hx).1) with ⟨g1, g2⟩ | ⟨j, e0, g1, g2, g3⟩
  · refine ⟨setBlock w b (.map (es.push ⟨key, .bool true, clock⟩) (clock + 1)), ?_, ⟨_, _, heap_setBlock_same hb _, stamped_push h1 g2, by simp; omega, ?_, ?_⟩, hg _⟩
    · simp [Instr.mapUpdate, run_underlying ht, MapKept.run_getObj_map hb, K.check w false hkey, g1, MapKept.run_setObj_map _ hb, Result.andThen, setBlock]
    · intro x hx
      simp only [Array.toList_push, List.mem_append, List.mem_singleton] at hx
      rcases hx with hx | rfl
      · exact h3 x hx
      · exact ⟨⟨_, hkey⟩, rfl⟩
    · intro v
      simp only [Array.toList_push, List.mem_append, List.mem_singleton]
      constructor
      · rintro (rfl | hs)
        · exact ⟨_, .inr rfl, rfl⟩
        · obtain ⟨x, hx, hk⟩ := (h4 v).1 hs
          exact ⟨x, .inl hx, hk⟩
      · rintro ⟨x, hx | rfl, hk⟩
        · exact .inr ((h4 v).2 ⟨x, hx, hk⟩)
        · exact .inl hk.symm
  · have hj : es[j]? = some e0 := by simpa using g2
    have hm := List.mem_of_getElem? g2
    have hv := (h3 e0 hm).2
    have hkeyf : ∀ e', es[j]? = some e' → ({ e' with key := key, val := .bool true } : MapEntry).key = e'.key := fun e' he' => by rw [hj] at he'; cases he'; exact g3.symm
    have hlist : (es.modify j (fun e' => { e' with key := key, val := .bool true })).toList = es.toList := by
      rw [Array.toList_modify, modify_eq_set _ _ _ _ g2]
      have e0e : ({ e0 with key := key, val := .bool true } : MapEntry) = e0 := by cases e0; simp only at g3 hv; subst g3; subst hv; rfl
      rw [e0e]
      refine List.ext_getElem? fun i => ?_
      rw [List.getElem?_set]
      split
      · rename_i hi
        subst hi
        rw [if_pos (List.getElem?_eq_some_iff.1 g2).1, g2]
      · rfl
    refine ⟨setBlock w b (.map (es.modify j (fun e' => { e' with key := key, val := .bool true })) clock), ?_, ⟨_, _, heap_setBlock_same hb _, stamped_modify h1 _ _ (fun _ _ => rfl) (fun e' _ he' => hkeyf e' he'), ?_, ?_, ?_⟩, hg _⟩
    · simp [Instr.mapUpdate, run_underlying ht, MapKept.run_getObj_map hb, K.check w false hkey, g1, hj, g3, K.stays w hkey, MapKept.run_setObj_map _ hb, Result.andThen, setBlock]
    · simp; omega
    · intro x hx
      rw [hlist] at hx
      exact h3 x hx
    · intro v
      rw [hlist]
      constructor
      · rintro (rfl | hs)
        · exact ⟨e0, hm, g3⟩
        · exact (h4 v).1 hs
      · intro hx
        exact .inr ((h4 v).2 hx)

/-- The look-up at the operation, for a walk. -/
theorem wpList_lookup_set (w : World) {ops : Array Oper} {rest : List Oper} {o : Oper} {a : Act} {Q : Exit → Act → World → Prop}
    (hg : o.guard = none) (m x : Operand) (t : TypeId) (hop : o.op = Op.lookup t m x false)
    (k e : TypeId) (K : Keyed P k) (ht : P.underlying t = some (.map k e)) (hz : (zeroValue e).run P w = .ok (.bool false) w) (b n : Nat) (S : Value → Prop)
    (hm : a.eval m = .map (some b)) (hown : MapSet P k w b n S) (key : Value) (kl : Lit) (hx : a.eval x = key) (hkey : keyOf P k key = some kl)
    (hK : ∀ c : Bool, (c = true ↔ S key) → wpList P ops Q rest (a.put o.dst (.bool c)) w) :
    wpList P ops Q (o :: rest) a w := by
  refine wpList_plain hg fun K' hK' => ?_
  obtain ⟨c, hrun, hat⟩ := hown.lookup K ht hz hkey
  unfold Oper.wp
  simp [execOp, hop, hm, hx, hrun, Result.andThen]
  exact hK' _ _ (hK c hat)
/-- The store at the operation, for a walk. -/
theorem wpList_store_set (w : World) {ops : Array Oper} {rest : List Oper} {o : Oper} {a : Act} {Q : Exit → Act → World → Prop}
    (hg : o.guard = none) (m x v : Operand) (t : TypeId) (hop : o.op = Op.mapUpdate t m x v)
    (k e : TypeId) (K : Keyed P k) (ht : P.underlying t = some (.map k e)) (b n : Nat) (S : Value → Prop)
    (hm : a.eval m = .map (some b)) (hown : MapSet P k w b n S) (hn : n < maxLen) (key : Value) (kl : Lit) (hx : a.eval x = key) (hv : a.eval v = .bool true) (hkey : keyOf P k key = some kl)
    (hK : ∀ w', MapSet P k w' b (n + 1) (fun v => v = key ∨ S v) → w.grownBy w' (some b) → wpList P ops Q rest (a.put o.dst undef) w') :
    wpList P ops Q (o :: rest) a w := by
  refine wpList_plain hg fun K' hK' => ?_
  obtain ⟨w', hrun, r1, r2⟩ := hown.store K ht hn hkey
  unfold Oper.wp
  simp [execOp, hop, hm, hx, hv, hrun, Result.andThen]
  exact hK' _ _ (hK w' r1 r2)
end Go.Proofs.YtkepnndakhpgoaaGreatDoor
