/-
  A node that is alone: ticks of its mesh.
-/
import Derived.Test.YtpikcdlhgiooaaaGreatKGc
namespace Go.Proofs.YtpikcdlhgiooaaaGreat
open Go Go.Proofs.YtpikcdlhgiooaaaGreat.Le
set_option linter.unusedVariables false
set_option maxRecDepth 100000
noncomputable section
theorem mt_21 (b : Bool) : (List.range 8).map (fun j => mtF b (168 + j)) = (List.range 8).map (fun j => some (mV b (168 + j + 1))) := by kernel_rfl
theorem mt_22 (b : Bool) : (List.range 8).map (fun j => mtF b (176 + j)) = (List.range 8).map (fun j => some (mV b (176 + j + 1))) := by kernel_rfl
theorem mt_23 (b : Bool) : (List.range 8).map (fun j => mtF b (184 + j)) = (List.range 8).map (fun j => some (mV b (184 + j + 1))) := by kernel_rfl
theorem mt_24 (b : Bool) : (List.range 8).map (fun j => mtF b (192 + j)) = (List.range 8).map (fun j => some (mV b (192 + j + 1))) := by kernel_rfl
theorem mt_25 (b : Bool) : (List.range 8).map (fun j => mtF b (200 + j)) = (List.range 8).map (fun j => some (mV b (200 + j + 1))) := by kernel_rfl
end
end Go.Proofs.YtpikcdlhgiooaaaGreat
