/-
  Functions of the program as functions of Lean (printed by a program of mine).
-/
import Derived.Test.YtlnlbmpgaghhhaaGreatDoorFa2
namespace Go.Proofs.YtlnlbmpgaghhhaaGreatDoor
open Go Go.Proofs.YtlnlbmpgaghhhaaGreatDoor.Le
set_option linter.unusedVariables false
set_option maxRecDepth 100000
/-! wireless/wirelesslaw58.lives -/
def ex4 : FuncId → Option (List V → Option V)
  | 10 => some joinF
  | _ => none
theorem exok4 : ∀ g F, ex4 g = some F → GivenOK Tryz.prog gl g F := fun g F h => by
  unfold ex4 at h
  split at h <;> cases h
  · exact join_given
noncomputable def m_law58_lives : Option Bool := some true
noncomputable def M_law58_lives : Mod U := { ts := [], rt := 4, fn := fun _ => m_law58_lives, ok := by decide }
theorem ck_law58_lives : exCheck Tryz.prog gl [4, 5, 7, 8, 9, 11, 12, 13, 14, 15, 16, 17, 18, 23, 24, 29, 39] (fun g => !([11, 12, 18, 23, 39].contains g)) [] [] ex4 = true := by kernel_rfl
theorem ok_law58_lives : FnOK Tryz.prog B0 4 M_law58_lives := closedX_ok rfl mix_ok ck_law58_lives exok4 (fun p hp => by cases hp) (by rfl) (by decide) rfl Tryz.func4 (by kernel_rfl) (n := 60) (m := M_law58_lives) rfl (a := true) (fun _ => rfl) (by kernel_rfl)

end Go.Proofs.YtlnlbmpgaghhhaaGreatDoor
