/-
  A node that is alone: ticks of the node.
-/
import Derived.Test.YtpikcdlhgiooaaaGreatKGa
namespace Go.Proofs.YtpikcdlhgiooaaaGreat
open Go Go.Proofs.YtpikcdlhgiooaaaGreat.Le
set_option linter.unusedVariables false
set_option maxRecDepth 100000
noncomputable section
theorem nt_21 (b : Bool) : [171, 172, 173, 174, 175, 176, 177, 178].map (fun i => ntF b i) = [171, 172, 173, 174, 175, 176, 177, 178].map (fun i => some (ntR b i)) := by kernel_rfl
theorem nt_22 (b : Bool) : [179, 180, 181, 182, 183, 184, 185, 186].map (fun i => ntF b i) = [179, 180, 181, 182, 183, 184, 185, 186].map (fun i => some (ntR b i)) := by kernel_rfl
theorem nt_23 (b : Bool) : [187, 188, 189, 190, 191, 192, 193, 194].map (fun i => ntF b i) = [187, 188, 189, 190, 191, 192, 193, 194].map (fun i => some (ntR b i)) := by kernel_rfl
theorem nt_24 (b : Bool) : [195, 196, 197, 198, 199, 200, 201, 202].map (fun i => ntF b i) = [195, 196, 197, 198, 199, 200, 201, 202].map (fun i => some (ntR b i)) := by kernel_rfl
theorem nt_25 (b : Bool) : [203, 204, 205, 206, 207, 208, 209, 210].map (fun i => ntF b i) = [203, 204, 205, 206, 207, 208, 209, 210].map (fun i => some (ntR b i)) := by kernel_rfl
end
end Go.Proofs.YtpikcdlhgiooaaaGreat
