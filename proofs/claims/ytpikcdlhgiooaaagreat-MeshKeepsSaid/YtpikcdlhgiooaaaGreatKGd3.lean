/-
  A node that is alone: ticks of its mesh.
-/
import Derived.Test.YtpikcdlhgiooaaaGreatKGc
namespace Go.Proofs.YtpikcdlhgiooaaaGreat
open Go Go.Proofs.YtpikcdlhgiooaaaGreat.Le
set_option linter.unusedVariables false
set_option maxRecDepth 100000
noncomputable section
theorem mt_16 (b : Bool) : (List.range 8).map (fun j => mtF b (128 + j)) = (List.range 8).map (fun j => some (mV b (128 + j + 1))) := by kernel_rfl
theorem mt_17 (b : Bool) : (List.range 8).map (fun j => mtF b (136 + j)) = (List.range 8).map (fun j => some (mV b (136 + j + 1))) := by kernel_rfl
theorem mt_18 (b : Bool) : (List.range 8).map (fun j => mtF b (144 + j)) = (List.range 8).map (fun j => some (mV b (144 + j + 1))) := by kernel_rfl
theorem mt_19 (b : Bool) : (List.range 8).map (fun j => mtF b (152 + j)) = (List.range 8).map (fun j => some (mV b (152 + j + 1))) := by kernel_rfl
theorem mt_20 (b : Bool) : (List.range 8).map (fun j => mtF b (160 + j)) = (List.range 8).map (fun j => some (mV b (160 + j + 1))) := by kernel_rfl
end
end Go.Proofs.YtpikcdlhgiooaaaGreat
