/-
  A node that is alone: ticks of its mesh.
-/
import Derived.Test.YtpikcdlhgiooaaaGreatKGc
namespace Go.Proofs.YtpikcdlhgiooaaaGreat
open Go Go.Proofs.YtpikcdlhgiooaaaGreat.Le
set_option linter.unusedVariables false
set_option maxRecDepth 100000
noncomputable section
theorem mt_0 (b : Bool) : (List.range 8).map (fun j => mtF b (0 + j)) = (List.range 8).map (fun j => some (mV b (0 + j + 1))) := by kernel_rfl
theorem mt_1 (b : Bool) : (List.range 8).map (fun j => mtF b (8 + j)) = (List.range 8).map (fun j => some (mV b (8 + j + 1))) := by kernel_rfl
theorem mt_2 (b : Bool) : (List.range 8).map (fun j => mtF b (16 + j)) = (List.range 8).map (fun j => some (mV b (16 + j + 1))) := by kernel_rfl
theorem mt_3 (b : Bool) : (List.range 8).map (fun j => mtF b (24 + j)) = (List.range 8).map (fun j => some (mV b (24 + j + 1))) := by kernel_rfl
theorem mt_4 (b : Bool) : (List.range 8).map (fun j => mtF b (32 + j)) = (List.range 8).map (fun j => some (mV b (32 + j + 1))) := by kernel_rfl
end
end Go.Proofs.YtpikcdlhgiooaaaGreat
