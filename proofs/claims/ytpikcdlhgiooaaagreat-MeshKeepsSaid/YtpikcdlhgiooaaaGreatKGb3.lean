/-
  A node that is alone: ticks of the node.
-/
import Derived.Test.YtpikcdlhgiooaaaGreatKGa
namespace Go.Proofs.YtpikcdlhgiooaaaGreat
open Go Go.Proofs.YtpikcdlhgiooaaaGreat.Le
set_option linter.unusedVariables false
set_option maxRecDepth 100000
noncomputable section
theorem nt_16 (b : Bool) : [130, 131, 132, 133, 134, 135, 136, 137].map (fun i => ntF b i) = [130, 131, 132, 133, 134, 135, 136, 137].map (fun i => some (ntR b i)) := by kernel_rfl
theorem nt_17 (b : Bool) : [138, 139, 140, 141, 142, 143, 144, 145].map (fun i => ntF b i) = [138, 139, 140, 141, 142, 143, 144, 145].map (fun i => some (ntR b i)) := by kernel_rfl
theorem nt_18 (b : Bool) : [146, 147, 148, 149, 151, 152, 153, 154].map (fun i => ntF b i) = [146, 147, 148, 149, 151, 152, 153, 154].map (fun i => some (ntR b i)) := by kernel_rfl
theorem nt_19 (b : Bool) : [155, 156, 157, 158, 159, 160, 161, 162].map (fun i => ntF b i) = [155, 156, 157, 158, 159, 160, 161, 162].map (fun i => some (ntR b i)) := by kernel_rfl
theorem nt_20 (b : Bool) : [163, 164, 165, 166, 167, 168, 169, 170].map (fun i => ntF b i) = [163, 164, 165, 166, 167, 168, 169, 170].map (fun i => some (ntR b i)) := by kernel_rfl
end
end Go.Proofs.YtpikcdlhgiooaaaGreat
