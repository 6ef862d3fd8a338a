/-
  Functions of the program as functions of Lean (printed by a program of mine).
-/
import Derived.Test.YtlnlbmpgaghhhaaGreatDoorFa1
namespace Go.Proofs.YtlnlbmpgaghhhaaGreatDoor
open Go Go.Proofs.YtlnlbmpgaghhhaaGreatDoor.Le
set_option linter.unusedVariables false
set_option maxRecDepth 100000
/-! slices.Clone[[]byte,byte] -/
theorem clone_slices_Clone_byte : CloneOK Tryz.prog 63 1 1 5 := clone_ok mix_ok (t := 57) (tb := 4) (e := 5) Tryz.func63 (by kernel_rfl) (by kernel_rfl) (by kernel_rfl) (by kernel_rfl) (by kernel_rfl) (by kernel_rfl) (by kernel_rfl) (by decide)
noncomputable def m_slices_Clone_byte (a0 : List Int) : Option (List Int) := if a0.length * 1 ≤ lim ∧ a0.length ≤ maxLen then some a0 else none
noncomputable def M_slices_Clone_byte : Mod U := { ts := [57], rt := 57, fn := fun x => m_slices_Clone_byte x.1, ok := by decide }
theorem ok_slices_Clone_byte : FnOK Tryz.prog B0 63 M_slices_Clone_byte := clone_fn clone_slices_Clone_byte fun x a hx => by
  simp only [M_slices_Clone_byte, m_slices_Clone_byte] at hx
  split at hx
  · rename_i h
    cases hx
    exact ⟨_, rfl, rfl, by simpa using h.1, by simpa using h.2⟩
  · cases hx

end Go.Proofs.YtlnlbmpgaghhhaaGreatDoor
