/-
  A node that is alone: ticks of the node.
-/
import Derived.Test.YtpikcdlhgiooaaaGreatKGa
namespace Go.Proofs.YtpikcdlhgiooaaaGreat
open Go Go.Proofs.YtpikcdlhgiooaaaGreat.Le
set_option linter.unusedVariables false
set_option maxRecDepth 100000
noncomputable section
theorem nt_10 (b : Bool) : [82, 83, 84, 85, 86, 87, 88, 89].map (fun i => ntF b i) = [82, 83, 84, 85, 86, 87, 88, 89].map (fun i => some (ntR b i)) := by kernel_rfl
theorem nt_11 (b : Bool) : [90, 91, 92, 93, 94, 95, 96, 97].map (fun i => ntF b i) = [90, 91, 92, 93, 94, 95, 96, 97].map (fun i => some (ntR b i)) := by kernel_rfl
theorem nt_12 (b : Bool) : [98, 99, 100, 101, 102, 103, 104, 105].map (fun i => ntF b i) = [98, 99, 100, 101, 102, 103, 104, 105].map (fun i => some (ntR b i)) := by kernel_rfl
theorem nt_13 (b : Bool) : [106, 107, 108, 109, 110, 111, 112, 113].map (fun i => ntF b i) = [106, 107, 108, 109, 110, 111, 112, 113].map (fun i => some (ntR b i)) := by kernel_rfl
theorem nt_14 (b : Bool) : [114, 115, 116, 117, 118, 119, 120, 121].map (fun i => ntF b i) = [114, 115, 116, 117, 118, 119, 120, 121].map (fun i => some (ntR b i)) := by kernel_rfl
theorem nt_15 (b : Bool) : [122, 123, 124, 125, 126, 127, 128, 129].map (fun i => ntF b i) = [122, 123, 124, 125, 126, 127, 128, 129].map (fun i => some (ntR b i)) := by kernel_rfl
end
end Go.Proofs.YtpikcdlhgiooaaaGreat
