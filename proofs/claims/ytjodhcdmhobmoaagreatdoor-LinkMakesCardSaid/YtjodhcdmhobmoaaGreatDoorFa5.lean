/-
  Functions of the program as functions of Lean (printed by a program of mine).
-/
import Derived.Test.YtjodhcdmhobmoaaGreatDoorFa4
namespace Go.Proofs.YtjodhcdmhobmoaaGreatDoor
open Go Go.Proofs.YtjodhcdmhobmoaaGreatDoor.Le
set_option linter.unusedVariables false
set_option maxRecDepth 100000
/-! slices.Clone[[]wireless/api.Tally,wireless/api.Tally] -/
theorem clone_slices_Clone_Tally : CloneOK Tryz.prog 148 2 16 99 := clone_ok mix_ok (t := 42) (tb := 4) (e := 99) Tryz.func148 (by kernel_rfl) (by kernel_rfl) (by kernel_rfl) (by kernel_rfl) (by kernel_rfl) (by kernel_rfl) (by kernel_rfl) (by decide)
noncomputable def m_slices_Clone_Tally (a0 : List api_Tally) : Option (List api_Tally) := if a0.length * 16 ≤ lim ∧ a0.length ≤ maxLen then some a0 else none
noncomputable def M_slices_Clone_Tally : Mod U := { ts := [42], rt := 42, fn := fun x => m_slices_Clone_Tally x.1, ok := by decide }
theorem ok_slices_Clone_Tally : FnOK Tryz.prog B0 148 M_slices_Clone_Tally := clone_fn clone_slices_Clone_Tally fun x a hx => by
  simp only [M_slices_Clone_Tally, m_slices_Clone_Tally] at hx
  split at hx
  · rename_i h
    cases hx
    exact ⟨_, rfl, rfl, by simpa using h.1, by simpa using h.2⟩
  · cases hx

end Go.Proofs.YtjodhcdmhobmoaaGreatDoor
