/-
  A node that is alone: ticks of its mesh.
-/
import Derived.Test.YtpikcdlhgiooaaaGreatKGc
namespace Go.Proofs.YtpikcdlhgiooaaaGreat
open Go Go.Proofs.YtpikcdlhgiooaaaGreat.Le
set_option linter.unusedVariables false
set_option maxRecDepth 100000
noncomputable section
theorem mt_26 (b : Bool) : (List.range 8).map (fun j => mtF b (208 + j)) = (List.range 8).map (fun j => some (mV b (208 + j + 1))) := by kernel_rfl
theorem mt_27 (b : Bool) : (List.range 8).map (fun j => mtF b (216 + j)) = (List.range 8).map (fun j => some (mV b (216 + j + 1))) := by kernel_rfl
theorem mt_28 (b : Bool) : (List.range 8).map (fun j => mtF b (224 + j)) = (List.range 8).map (fun j => some (mV b (224 + j + 1))) := by kernel_rfl
theorem mt_29 (b : Bool) : (List.range 8).map (fun j => mtF b (232 + j)) = (List.range 8).map (fun j => some (mV b (232 + j + 1))) := by kernel_rfl
theorem mt_30 (b : Bool) : (List.range 8).map (fun j => mtF b (240 + j)) = (List.range 8).map (fun j => some (mV b (240 + j + 1))) := by kernel_rfl
theorem mt_31 (b : Bool) : (List.range 8).map (fun j => mtF b (248 + j)) = (List.range 8).map (fun j => some (mV b (248 + j + 1))) := by kernel_rfl
end
end Go.Proofs.YtpikcdlhgiooaaaGreat
