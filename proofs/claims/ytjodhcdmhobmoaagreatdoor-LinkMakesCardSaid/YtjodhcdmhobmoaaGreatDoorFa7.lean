/-
  Functions of the program as functions of Lean (printed by a program of mine).
-/
import Derived.Test.YtjodhcdmhobmoaaGreatDoorFa6
namespace Go.Proofs.YtjodhcdmhobmoaaGreatDoor
open Go Go.Proofs.YtjodhcdmhobmoaaGreatDoor.Le
set_option linter.unusedVariables false
set_option maxRecDepth 100000
/-! wireless/hop.reverse -/
inductive P_hop_reverse where
  | b0 (a0 : Int)
  | b1 (a0 : Int) (a1 : Int) (a2 : Int)
noncomputable def T_hop_reverse : P_hop_reverse → Tr U (Int ⊕ P_hop_reverse)
  | .b0 a0 => .leaf (.inr (.b1 a0 (0 : Int) (0 : Int)))
  | .b1 a0 a1 a2 => .br (decide (a2 < (8 : Int))) (
    .chk (decide (0 ≤ a2)) (
      .chk (decide (0 ≤ (w64 ((7 : Int) - a2)))) (
        .leaf (.inr (.b1 a0 (bits .or .u16 a1 (IntKind.wrap .u16 ((bits .and .u16 (Int.fdiv a0 (2 ^ (min (Int.toNat a2) (IntKind.bits .u16)))) (257 : Int)) * 2 ^ (min (Int.toNat (w64 ((7 : Int) - a2))) (IntKind.bits .u16))))) (w64 (a2 + (1 : Int)))))))) (
    .leaf (.inl a1))
noncomputable def m_hop_reverse (a0 : Int) : Option Int := flow T_hop_reverse (.b0 a0)
noncomputable def M_hop_reverse : Mod U := { ts := [30], rt := 30, fn := fun x => m_hop_reverse x.1, ok := by decide }
noncomputable def A_hop_reverse : Nat → Option (List Nat)
  | 3 => some [0, 3, 5]
  | _ => none
noncomputable def mods_hop_reverse : FuncId → Option (Mod U)
  | _ => none
noncomputable def c_hop_reverse : Code := bodyOf Tryz.f222
noncomputable def sp_hop_reverse : P_hop_reverse → Spot U
  | .b0 a0 => ⟨c_hop_reverse, [], entryS [30] (a0, ()) 19, false⟩
  | .b1 a0 a1 a2 => ⟨(nav c_hop_reverse [1, 1, 0, 1, 0, 0, 0] []).1, (nav c_hop_reverse [1, 1, 0, 1, 0, 0, 0] []).2, ⟨[.si .u16 a0, .und, .und, .si .u16 a1, .und, .si .i64 a2, .und, .und, .und, .und, .und, .und, .und, .und, .und, .und, .und, .und, .und], []⟩, true⟩
theorem blk_hop_reverse : ∀ p, Le.runT (EV Tryz.prog gl 222 mods_hop_reverse noH) (mdlOf mods_hop_reverse noH) A_hop_reverse 222 Tryz.f222 0 (doneP (EV Tryz.prog gl 222 mods_hop_reverse noH) Tryz.f222) 1000 (.run (sp_hop_reverse p).c) (sp_hop_reverse p).K (sp_hop_reverse p).st (sp_hop_reverse p).sk = (T_hop_reverse p).map (leafOf (outP (U := U) 30) sp_hop_reverse)
  | .b0 a0 => by kernel_rfl
  | .b1 a0 a1 a2 => by kernel_rfl
theorem ok_hop_reverse : FnOK Tryz.prog B0 222 M_hop_reverse := by
  refine fn_flow rfl (univ_ok _ rfl) mix_ok (fn := Tryz.f222) (c := c_hop_reverse) (mods := mods_hop_reverse) (hmods := noH) ?_ (fun g k m h => by cases h) Tryz.func222 (by kernel_rfl) (by kernel_rfl) (by kernel_rfl) M_hop_reverse T_hop_reverse sp_hop_reverse blk_hop_reverse (fun x => .b0 x.1) (fun x => rfl) (fun x => rfl)
  intro g m h
  cases h

/-! wireless/hop.Random -/
inductive P_hop_Random where
  | b0 (a0 : Int) (a1 : Int)
  | b1 (a0 : Int) (a1 : Int) (a2 : Int)
noncomputable def T_hop_Random : P_hop_Random → Tr U (Int ⊕ P_hop_Random)
  | .b0 a0 a1 => .leaf (.inr (.b1 a1 (bits .xor .u16 a0 a1) (0 : Int)))
  | .b1 a0 a1 a2 => .br (decide (a2 < (3 : Int))) (
    .bind 30 (m_hop_reverse a1) (fun (x1 : Int) => 
      .leaf (.inr (.b1 a0 (IntKind.wrap .u16 ((IntKind.wrap .u16 (x1 * (17 : Int))) + a0)) (w64 (a2 + (1 : Int))))))) (
    .leaf (.inl (bits .xor .u16 a1 a0)))
noncomputable def m_hop_Random (a0 : Int) (a1 : Int) : Option Int := flow T_hop_Random (.b0 a0 a1)
noncomputable def M_hop_Random : Mod U := { ts := [30, 30], rt := 30, fn := fun x => m_hop_Random x.1 x.2.1, ok := by decide }
noncomputable def A_hop_Random : Nat → Option (List Nat)
  | 3 => some [1, 5, 9]
  | _ => none
noncomputable def mods_hop_Random : FuncId → Option (Mod U)
  | 222 => some M_hop_reverse
  | _ => none
noncomputable def c_hop_Random : Code := bodyOf Tryz.f133
noncomputable def sp_hop_Random : P_hop_Random → Spot U
  | .b0 a0 a1 => ⟨c_hop_Random, [], entryS [30, 30] (a0, a1, ()) 20, false⟩
  | .b1 a0 a1 a2 => ⟨(nav c_hop_Random [1, 1, 0, 1, 0, 0, 0] []).1, (nav c_hop_Random [1, 1, 0, 1, 0, 0, 0] []).2, ⟨[.und, .si .u16 a0, .und, .und, .und, .si .u16 a1, .und, .und, .und, .si .i64 a2, .und, .und, .und, .und, .und, .und, .und, .und, .und, .und], []⟩, true⟩
theorem blk_hop_Random : ∀ p, Le.runT (EV Tryz.prog gl 133 mods_hop_Random noH) (mdlOf mods_hop_Random noH) A_hop_Random 133 Tryz.f133 0 (doneP (EV Tryz.prog gl 133 mods_hop_Random noH) Tryz.f133) 1000 (.run (sp_hop_Random p).c) (sp_hop_Random p).K (sp_hop_Random p).st (sp_hop_Random p).sk = (T_hop_Random p).map (leafOf (outP (U := U) 30) sp_hop_Random)
  | .b0 a0 a1 => by kernel_rfl
  | .b1 a0 a1 a2 => by kernel_rfl
theorem ok_hop_Random : FnOK Tryz.prog B0 133 M_hop_Random := by
  refine fn_flow rfl (univ_ok _ rfl) mix_ok (fn := Tryz.f133) (c := c_hop_Random) (mods := mods_hop_Random) (hmods := noH) ?_ (fun g k m h => by cases h) Tryz.func133 (by kernel_rfl) (by kernel_rfl) (by kernel_rfl) M_hop_Random T_hop_Random sp_hop_Random blk_hop_Random (fun x => .b0 x.1 x.2.1) (fun x => rfl) (fun x => rfl)
  intro g m h
  unfold mods_hop_Random at h
  split at h <;> cases h
  · exact ok_hop_reverse

/-! wireless/hop.Ident -/
inductive P_hop_Ident where
  | b0 (a0 : Int)
noncomputable def T_hop_Ident : P_hop_Ident → Tr U (Int ⊕ P_hop_Ident)
  | .b0 a0 => .leaf (.inl (bits .xor .u16 (IntKind.wrap .u16 ((Int.fdiv a0 (2 ^ (16 : Nat))))) (IntKind.wrap .u16 (a0))))
noncomputable def m_hop_Ident (a0 : Int) : Option Int := flow T_hop_Ident (.b0 a0)
noncomputable def M_hop_Ident : Mod U := { ts := [22], rt := 30, fn := fun x => m_hop_Ident x.1, ok := by decide }
noncomputable def A_hop_Ident : Nat → Option (List Nat)
  | _ => none
noncomputable def mods_hop_Ident : FuncId → Option (Mod U)
  | _ => none
noncomputable def c_hop_Ident : Code := bodyOf Tryz.f134
noncomputable def sp_hop_Ident : P_hop_Ident → Spot U
  | .b0 a0 => ⟨c_hop_Ident, [], entryS [22] (a0, ()) 9, false⟩
theorem blk_hop_Ident : ∀ p, Le.runT (EV Tryz.prog gl 134 mods_hop_Ident noH) (mdlOf mods_hop_Ident noH) A_hop_Ident 134 Tryz.f134 0 (doneP (EV Tryz.prog gl 134 mods_hop_Ident noH) Tryz.f134) 1000 (.run (sp_hop_Ident p).c) (sp_hop_Ident p).K (sp_hop_Ident p).st (sp_hop_Ident p).sk = (T_hop_Ident p).map (leafOf (outP (U := U) 30) sp_hop_Ident)
  | .b0 a0 => by kernel_rfl
theorem ok_hop_Ident : FnOK Tryz.prog B0 134 M_hop_Ident := by
  refine fn_flow rfl (univ_ok _ rfl) mix_ok (fn := Tryz.f134) (c := c_hop_Ident) (mods := mods_hop_Ident) (hmods := noH) ?_ (fun g k m h => by cases h) Tryz.func134 (by kernel_rfl) (by kernel_rfl) (by kernel_rfl) M_hop_Ident T_hop_Ident sp_hop_Ident blk_hop_Ident (fun x => .b0 x.1) (fun x => rfl) (fun x => rfl)
  intro g m h
  cases h

/-! wireless/chanmap.Has -/
inductive P_chanmap_Has where
  | b0 (a0 : Int) (a1 : Int)
noncomputable def T_chanmap_Has : P_chanmap_Has → Tr U (Bool ⊕ P_chanmap_Has)
  | .b0 a0 a1 => .br (decide (a1 ≥ (0 : Int))) (
    .br (decide (a1 < (37 : Int))) (
      .chk (decide (0 ≤ a1)) (
        .leaf (.inl ((bits .and .u64 (Int.fdiv a0 (2 ^ (min (Int.toNat a1) (IntKind.bits .u64)))) (1 : Int)) == (1 : Int))))) (
      .leaf (.inl false))) (
    .leaf (.inl false))
noncomputable def m_chanmap_Has (a0 : Int) (a1 : Int) : Option Bool := flow T_chanmap_Has (.b0 a0 a1)
noncomputable def M_chanmap_Has : Mod U := { ts := [26, 3], rt := 4, fn := fun x => m_chanmap_Has x.1 x.2.1, ok := by decide }
noncomputable def A_chanmap_Has : Nat → Option (List Nat)
  | _ => none
noncomputable def mods_chanmap_Has : FuncId → Option (Mod U)
  | _ => none
noncomputable def c_chanmap_Has : Code := bodyOf Tryz.f223
noncomputable def sp_chanmap_Has : P_chanmap_Has → Spot U
  | .b0 a0 a1 => ⟨c_chanmap_Has, [], entryS [26, 3] (a0, a1, ()) 18, false⟩
theorem blk_chanmap_Has : ∀ p, Le.runT (EV Tryz.prog gl 223 mods_chanmap_Has noH) (mdlOf mods_chanmap_Has noH) A_chanmap_Has 223 Tryz.f223 0 (doneP (EV Tryz.prog gl 223 mods_chanmap_Has noH) Tryz.f223) 1000 (.run (sp_chanmap_Has p).c) (sp_chanmap_Has p).K (sp_chanmap_Has p).st (sp_chanmap_Has p).sk = (T_chanmap_Has p).map (leafOf (outP (U := U) 4) sp_chanmap_Has)
  | .b0 a0 a1 => by kernel_rfl
theorem ok_chanmap_Has : FnOK Tryz.prog B0 223 M_chanmap_Has := by
  refine fn_flow rfl (univ_ok _ rfl) mix_ok (fn := Tryz.f223) (c := c_chanmap_Has) (mods := mods_chanmap_Has) (hmods := noH) ?_ (fun g k m h => by cases h) Tryz.func223 (by kernel_rfl) (by kernel_rfl) (by kernel_rfl) M_chanmap_Has T_chanmap_Has sp_chanmap_Has blk_chanmap_Has (fun x => .b0 x.1 x.2.1) (fun x => rfl) (fun x => rfl)
  intro g m h
  cases h

end Go.Proofs.YtjodhcdmhobmoaaGreatDoor
