/-
  A node that is alone: ticks of the node.
-/
import Derived.Test.YtpikcdlhgiooaaaGreatKGa
namespace Go.Proofs.YtpikcdlhgiooaaaGreat
open Go Go.Proofs.YtpikcdlhgiooaaaGreat.Le
set_option linter.unusedVariables false
set_option maxRecDepth 100000
noncomputable section
theorem nt_0 (b : Bool) : [1, 2, 3, 4, 5, 6, 7, 8].map (fun i => ntF b i) = [1, 2, 3, 4, 5, 6, 7, 8].map (fun i => some (ntR b i)) := by kernel_rfl
theorem nt_1 (b : Bool) : [9, 10, 11, 12, 13, 14, 15, 16].map (fun i => ntF b i) = [9, 10, 11, 12, 13, 14, 15, 16].map (fun i => some (ntR b i)) := by kernel_rfl
theorem nt_2 (b : Bool) : [17, 18, 19, 20, 21, 22, 23, 24].map (fun i => ntF b i) = [17, 18, 19, 20, 21, 22, 23, 24].map (fun i => some (ntR b i)) := by kernel_rfl
theorem nt_3 (b : Bool) : [25, 26, 27, 28, 29, 30, 31, 32].map (fun i => ntF b i) = [25, 26, 27, 28, 29, 30, 31, 32].map (fun i => some (ntR b i)) := by kernel_rfl
theorem nt_4 (b : Bool) : [33, 34, 35, 36, 37, 38, 39, 40].map (fun i => ntF b i) = [33, 34, 35, 36, 37, 38, 39, 40].map (fun i => some (ntR b i)) := by kernel_rfl
theorem nb_50 (b : Bool) : nbF b 50 = some (ntR b 50) := by kernel_rfl
theorem nb_150 (b : Bool) : nbF b 150 = some (ntR b 150) := by kernel_rfl
theorem nb_250 (b : Bool) : nbF b 250 = some (ntR b 250) := by kernel_rfl
end
end Go.Proofs.YtpikcdlhgiooaaaGreat
