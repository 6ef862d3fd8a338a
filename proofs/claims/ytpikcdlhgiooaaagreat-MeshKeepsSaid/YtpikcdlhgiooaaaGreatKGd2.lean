/-
  A node that is alone: ticks of its mesh.
-/
import Derived.Test.YtpikcdlhgiooaaaGreatKGc
namespace Go.Proofs.YtpikcdlhgiooaaaGreat
open Go Go.Proofs.YtpikcdlhgiooaaaGreat.Le
set_option linter.unusedVariables false
set_option maxRecDepth 100000
noncomputable section
theorem mt_10 (b : Bool) : (List.range 8).map (fun j => mtF b (80 + j)) = (List.range 8).map (fun j => some (mV b (80 + j + 1))) := by kernel_rfl
theorem mt_11 (b : Bool) : (List.range 8).map (fun j => mtF b (88 + j)) = (List.range 8).map (fun j => some (mV b (88 + j + 1))) := by kernel_rfl
theorem mt_12 (b : Bool) : (List.range 8).map (fun j => mtF b (96 + j)) = (List.range 8).map (fun j => some (mV b (96 + j + 1))) := by kernel_rfl
theorem mt_13 (b : Bool) : (List.range 8).map (fun j => mtF b (104 + j)) = (List.range 8).map (fun j => some (mV b (104 + j + 1))) := by kernel_rfl
theorem mt_14 (b : Bool) : (List.range 8).map (fun j => mtF b (112 + j)) = (List.range 8).map (fun j => some (mV b (112 + j + 1))) := by kernel_rfl
theorem mt_15 (b : Bool) : (List.range 8).map (fun j => mtF b (120 + j)) = (List.range 8).map (fun j => some (mV b (120 + j + 1))) := by kernel_rfl
end
end Go.Proofs.YtpikcdlhgiooaaaGreat
