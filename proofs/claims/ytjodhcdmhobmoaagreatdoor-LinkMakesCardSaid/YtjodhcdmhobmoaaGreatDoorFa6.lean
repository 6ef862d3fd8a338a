/-
  Functions of the program as functions of Lean (printed by a program of mine).
-/
import Derived.Test.YtjodhcdmhobmoaaGreatDoorFa5
namespace Go.Proofs.YtjodhcdmhobmoaaGreatDoor
open Go Go.Proofs.YtjodhcdmhobmoaaGreatDoor.Le
set_option linter.unusedVariables false
set_option maxRecDepth 100000
/-! wireless/wirelesslaw30.lives -/
noncomputable def m_law30_lives : Option Bool := some true
noncomputable def M_law30_lives : Mod U := { ts := [], rt := 4, fn := fun _ => m_law30_lives, ok := by decide }
theorem ck_law30_lives : ecCheck Tryz.prog gl [11, 14, 15, 17, 19, 22, 27, 28, 37, 38, 39, 40, 41, 42, 52, 53, 55, 57, 58, 62, 63, 64, 65, 66, 67, 68, 78, 79, 122, 123, 124, 125, 126, 133, 134, 135, 136, 137, 143, 149, 150, 152, 153, 154, 155, 156, 158, 159, 160, 161, 218, 219, 222, 223, 230, 231, 232, 235, 236, 237, 238, 287, 321, 379, 380, 381] (fun g => !([62, 63, 64, 158, 159, 160, 235].contains g)) [(65, 9), (62, 5)] [(145, 1, 1, 5), (146, 15, 120, 156), (147, 8, 64, 138), (148, 2, 16, 99)] = true := by kernel_rfl
theorem ok_law30_lives : FnOK Tryz.prog B0 14 M_law30_lives := closed_ok rfl mix_ok ck_law30_lives (fun p hp => by simp only [List.mem_cons, List.not_mem_nil, or_false] at hp; rcases hp with rfl | rfl | rfl | rfl <;> first | exact clone_slices_Clone_byte | exact clone_slices_Clone_Control | exact clone_slices_Clone_Change | exact clone_slices_Clone_Tally) (by rfl) (by decide) rfl Tryz.func14 (by kernel_rfl) (n := 60) (m := M_law30_lives) rfl (a := true) (fun _ => rfl) (by kernel_rfl)

end Go.Proofs.YtjodhcdmhobmoaaGreatDoor
