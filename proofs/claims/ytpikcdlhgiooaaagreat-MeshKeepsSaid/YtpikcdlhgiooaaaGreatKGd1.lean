/-
  A node that is alone: ticks of its mesh.
-/
import Derived.Test.YtpikcdlhgiooaaaGreatKGc
namespace Go.Proofs.YtpikcdlhgiooaaaGreat
open Go Go.Proofs.YtpikcdlhgiooaaaGreat.Le
set_option linter.unusedVariables false
set_option maxRecDepth 100000
noncomputable section
theorem mt_5 (b : Bool) : (List.range 8).map (fun j => mtF b (40 + j)) = (List.range 8).map (fun j => some (mV b (40 + j + 1))) := by kernel_rfl
theorem mt_6 (b : Bool) : (List.range 8).map (fun j => mtF b (48 + j)) = (List.range 8).map (fun j => some (mV b (48 + j + 1))) := by kernel_rfl
theorem mt_7 (b : Bool) : (List.range 8).map (fun j => mtF b (56 + j)) = (List.range 8).map (fun j => some (mV b (56 + j + 1))) := by kernel_rfl
theorem mt_8 (b : Bool) : (List.range 8).map (fun j => mtF b (64 + j)) = (List.range 8).map (fun j => some (mV b (64 + j + 1))) := by kernel_rfl
theorem mt_9 (b : Bool) : (List.range 8).map (fun j => mtF b (72 + j)) = (List.range 8).map (fun j => some (mV b (72 + j + 1))) := by kernel_rfl
end
end Go.Proofs.YtpikcdlhgiooaaaGreat
