/-
  A node that is alone: ticks of the node.
-/
import Derived.Test.YtpikcdlhgiooaaaGreatKGa
namespace Go.Proofs.YtpikcdlhgiooaaaGreat
open Go Go.Proofs.YtpikcdlhgiooaaaGreat.Le
set_option linter.unusedVariables false
set_option maxRecDepth 100000
noncomputable section
theorem nt_26 (b : Bool) : [211, 212, 213, 214, 215, 216, 217, 218].map (fun i => ntF b i) = [211, 212, 213, 214, 215, 216, 217, 218].map (fun i => some (ntR b i)) := by kernel_rfl
theorem nt_27 (b : Bool) : [219, 220, 221, 222, 223, 224, 225, 226].map (fun i => ntF b i) = [219, 220, 221, 222, 223, 224, 225, 226].map (fun i => some (ntR b i)) := by kernel_rfl
theorem nt_28 (b : Bool) : [227, 228, 229, 230, 231, 232, 233, 234].map (fun i => ntF b i) = [227, 228, 229, 230, 231, 232, 233, 234].map (fun i => some (ntR b i)) := by kernel_rfl
theorem nt_29 (b : Bool) : [235, 236, 237, 238, 239, 240, 241, 242].map (fun i => ntF b i) = [235, 236, 237, 238, 239, 240, 241, 242].map (fun i => some (ntR b i)) := by kernel_rfl
theorem nt_30 (b : Bool) : [243, 244, 245, 246, 247, 248, 249, 251].map (fun i => ntF b i) = [243, 244, 245, 246, 247, 248, 249, 251].map (fun i => some (ntR b i)) := by kernel_rfl
theorem nt_31 (b : Bool) : [252, 253, 254, 255, 256].map (fun i => ntF b i) = [252, 253, 254, 255, 256].map (fun i => some (ntR b i)) := by kernel_rfl
end
end Go.Proofs.YtpikcdlhgiooaaaGreat
