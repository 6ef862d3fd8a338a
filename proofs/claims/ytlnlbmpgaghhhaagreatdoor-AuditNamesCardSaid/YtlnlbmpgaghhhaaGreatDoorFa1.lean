/-
  strings.Join, by the shelf's contract.
-/
import Derived.Test.YtlnlbmpgaghhhaaGreatDoorUn
import Derived.Test.YtlnlbmpgaghhhaaGreatDoorShelf
import Derived.Shelf.Strings.OnBuilder
namespace Go.Proofs.YtlnlbmpgaghhhaaGreatDoor
open Go Go.Proofs.YtlnlbmpgaghhhaaGreatDoor.Le
open Go.RowKit (Below)
set_option linter.unusedVariables false
theorem reps_strs {σ : Sg} {w : World} : ∀ (xs : List ByteArray) (us : List Value), Reps σ w (xs.map fun s => V.lit (.string s)) us → us = xs.map fun s => Value.string s
  | [], us, h => h.nil_left
  | x :: xs, us, h => by
    obtain ⟨u, us', rfl, h1, h2⟩ := h.cons_left
    have := reps_strs xs us' h2
    subst this
    cases h1 with
    | lit _ _ => rfl
def joinB (xs : List ByteArray) (sep : ByteArray) : ByteArray := ⟨(Lib.join (xs.map (·.data.toList)) sep.data.toList).toArray⟩
noncomputable def m_strings_Join (a0 : List ByteArray) (a1 : ByteArray) : Option ByteArray :=
  if a0.length ≤ 140737488355328 ∧ (Lib.join (a0.map (·.data.toList)) a1.data.toList).length ≤ 140737488355328 then some (joinB a0 a1) else none
noncomputable def M_strings_Join : Mod U := { ts := [80, 9], rt := 9, fn := fun x => m_strings_Join x.1 x.2.1, ok := by decide }
theorem join_calls (fz : Nat → Nat → Prop) (w : World) (xs : List ByteArray) (sep : ByteArray) (v0 : Value) (hcells : ∀ b c, fz b c → ∃ u, w.cell? ⟨b, c, none⟩ = some u)
    (h1 : Reps (bare fz) w [.sl false 1 (xs.map fun s => V.lit (.string s))] [v0]) (hN : xs.length ≤ 140737488355328) (hlen : (Lib.join (xs.map (·.data.toList)) sep.data.toList).length ≤ 140737488355328) :
    Calls Tryz.prog 10 #[v0, .string sep] w fun e w' => e = .returned (.string (joinB xs sep)) ∧ Below w.heap.size w w' := by
  generalize hes : (xs.map fun s => V.lit (.string s)) = es at h1
  have none : ∀ (a : Option Addr) (c : Nat), xs = [] → Calls Tryz.prog 10 #[.slice a 0 c, .string sep] w fun e w' => e = .returned (.string (joinB xs sep)) ∧ Below w.heap.size w w' := fun a c hx => by
    subst hx
    exact (Any.strings_Join_none Tryz.lays156 Tryz.Builder_Extra_156 a c sep w).mono fun e w' ⟨he, hw⟩ => ⟨he, hw ▸ Below.refl _ _⟩
  cases h1 with
  | slnil h => exact none _ _ (by simpa using hes)
  | slemp a h => exact none _ _ (by simpa using hes)
  | @sl _ us _ _ b o c _ hr hf hsz hone hle hcap hlies h =>
    subst hes
    have hu := reps_strs xs us hr
    subst hu
    have hfl : flat (xs.map fun s => Value.string s) = xs.map fun s => Value.string s := by
      clear hr hf hsz hone hlies hle hN hlen none
      induction xs with
      | nil => rfl
      | cons x xs ih => simp only [flat, List.map_cons, List.flatMap_cons] at ih ⊢; rw [ih]; rfl
    have hc : ∀ (j : Nat) x, xs[j]? = some x → w.cell? ⟨b, o + j, .none⟩ = some (.string x) := fun j x hj => (hlies j (.string x) (by rw [hfl, List.getElem?_map, hj]; rfl)).2
    rw [List.length_map]
    rcases xs with _ | ⟨x, r⟩
    · exact none _ _ rfl
    · have hb : b < w.heap.size := by
        have := hc 0 x rfl
        exact cell_lt this
      exact Any.strings_Join Tryz.lays156 Tryz.Builder_Extra_156 b o c (x :: r) sep w hc hb hN (by simpa using hle) hlen
def strsOf : List V → Option (List ByteArray)
  | [] => some []
  | .lit (.string s) :: xs => (strsOf xs).map (s :: ·)
  | _ => none
theorem strsOf_eq : ∀ {xs : List V} {ss : List ByteArray}, strsOf xs = some ss → xs = ss.map fun s => V.lit (.string s)
  | [], ss, h => by simp only [strsOf, Option.some.injEq] at h; subst h; rfl
  | x :: xs, ss, h => by
    unfold strsOf at h
    split at h
    · rename_i heq; cases heq
    · rename_i s xs' heq
      cases heq
      cases hs : strsOf xs with
      | none => simp [hs] at h
      | some r =>
        simp only [hs, Option.map_some, Option.some.injEq] at h
        subst h
        rw [strsOf_eq hs]
        rfl
    · cases h
def joinF : List V → Option V
  | [.sl false e xs, .lit (.string sep)] => if e = 1 then (match strsOf xs with
    | some ss => if ss.length ≤ 140737488355328 ∧ (Lib.join (ss.map (·.data.toList)) sep.data.toList).length ≤ 140737488355328 then some (.lit (.string (joinB ss sep))) else none
    | none => none) else none
  | _ => none
theorem join_pure (E : Env) (ss : List ByteArray) (sep : ByteArray) (hN : ss.length ≤ 140737488355328) (hlen : (Lib.join (ss.map (·.data.toList)) sep.data.toList).length ≤ 140737488355328) :
    PureFn Tryz.prog E 10 [.sl false 1 (ss.map fun s => V.lit (.string s)), .lit (.string sep)] (.lit (.string (joinB ss sep))) := by
  intro fz w vs hcells hg hr
  obtain ⟨v0, vs, rfl, h1, hr⟩ := hr.cons_left
  obtain ⟨v1, vs, rfl, h2, hr⟩ := hr.cons_left
  cases hr.nil_left
  cases h2 with
  | lit _ _ =>
    refine (join_calls fz w ss sep v0 hcells h1 hN hlen).mono ?_
    rintro e w' ⟨rfl, hb⟩
    refine ⟨_, fz, rfl, hb, fun _ _ h => h, fun _ _ h _ => h, fun b c h => ?_, .lit ?_ .nil, rfl⟩
    · obtain ⟨u, hu⟩ := hcells b c h
      exact ⟨u, (hb.cell (p := ⟨b, c, none⟩) (cell_lt hu)).trans hu⟩
    · have h1 : (joinB ss sep).size ≤ maxLen := Nat.le_trans (show (joinB ss sep).size ≤ 140737488355328 by simpa [joinB, ByteArray.size] using hlen) (by decide)
      simpa [leaf] using h1
theorem join_entered : Entered Tryz.prog 10 := ⟨Tryz.f10, Tryz.func10, by kernel_rfl, by kernel_rfl⟩
theorem join_given : GivenOK Tryz.prog gl 10 joinF := by
  refine ⟨join_entered, fun E xs r _ h => ?_⟩
  unfold joinF at h
  split at h
  · split at h
    · rename_i he
      subst he
      split at h
      · rename_i ss hs
        split at h
        · rename_i hl
          cases h
          rw [strsOf_eq hs]
          exact join_pure E ss _ hl.1 hl.2
        · cases h
      · cases h
    · cases h
  · cases h
theorem ok_strings_Join : FnOK Tryz.prog B0 10 M_strings_Join := by
  refine ⟨join_entered, ?_⟩
  rintro ⟨xs, sep, _⟩ a ha
  have ha' : m_strings_Join xs sep = some a := ha
  unfold m_strings_Join at ha'
  split at ha'
  · rename_i hl
    cases ha'
    exact join_pure B0 xs sep hl.1 hl.2
  · cases ha'
end Go.Proofs.YtlnlbmpgaghhhaaGreatDoor
