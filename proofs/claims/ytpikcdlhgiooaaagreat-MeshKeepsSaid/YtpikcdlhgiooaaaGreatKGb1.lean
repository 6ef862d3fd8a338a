/-
  A node that is alone: ticks of the node.
-/
import Derived.Test.YtpikcdlhgiooaaaGreatKGa
namespace Go.Proofs.YtpikcdlhgiooaaaGreat
open Go Go.Proofs.YtpikcdlhgiooaaaGreat.Le
set_option linter.unusedVariables false
set_option maxRecDepth 100000
noncomputable section
theorem nt_5 (b : Bool) : [41, 42, 43, 44, 45, 46, 47, 48].map (fun i => ntF b i) = [41, 42, 43, 44, 45, 46, 47, 48].map (fun i => some (ntR b i)) := by kernel_rfl
theorem nt_6 (b : Bool) : [49, 51, 52, 53, 54, 55, 56, 57].map (fun i => ntF b i) = [49, 51, 52, 53, 54, 55, 56, 57].map (fun i => some (ntR b i)) := by kernel_rfl
theorem nt_7 (b : Bool) : [58, 59, 60, 61, 62, 63, 64, 65].map (fun i => ntF b i) = [58, 59, 60, 61, 62, 63, 64, 65].map (fun i => some (ntR b i)) := by kernel_rfl
theorem nt_8 (b : Bool) : [66, 67, 68, 69, 70, 71, 72, 73].map (fun i => ntF b i) = [66, 67, 68, 69, 70, 71, 72, 73].map (fun i => some (ntR b i)) := by kernel_rfl
theorem nt_9 (b : Bool) : [74, 75, 76, 77, 78, 79, 80, 81].map (fun i => ntF b i) = [74, 75, 76, 77, 78, 79, 80, 81].map (fun i => some (ntR b i)) := by kernel_rfl
end
end Go.Proofs.YtpikcdlhgiooaaaGreat
