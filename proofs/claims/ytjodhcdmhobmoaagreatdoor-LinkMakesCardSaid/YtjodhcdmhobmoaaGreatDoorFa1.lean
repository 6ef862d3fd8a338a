/-
  Functions of the program as functions of Lean (printed by a program of mine).
-/
import Derived.Test.YtjodhcdmhobmoaaGreatDoorUn
namespace Go.Proofs.YtjodhcdmhobmoaaGreatDoor
open Go Go.Proofs.YtjodhcdmhobmoaaGreatDoor.Le
set_option linter.unusedVariables false
set_option maxRecDepth 100000
/-! wireless/connect.within -/
inductive P_connect_within where
  | b0 (a0 : List connect_span)
  | b1 (a0 : List connect_span) (a1 : Int) (a2 : Int)
  | b2 (a0 : List connect_span) (a1 : Int) (a2 : Int)
noncomputable def T_connect_within : P_connect_within → Tr U (Bool ⊕ P_connect_within)
  | .b0 a0 => .leaf (.inr (.b1 a0 (↑a0.length : Int) (0 : Int)))
  | .b1 a0 a1 a2 => .br (decide (a2 < a1)) (
    .chk (decide (0 ≤ a2 ∧ a2 < (↑a0.length : Int))) (
      .bind 174 (a0[(Int.toNat a2)]?) (fun (x1 : connect_span) => 
        .br (decide (x1.f_n < x1.f_low)) (
          .leaf (.inl false)) (
          .br (decide (x1.f_n > x1.f_high)) (
            .leaf (.inl false)) (
            .leaf (.inr (.b2 a0 a1 a2))))))) (
    .leaf (.inl true))
  | .b2 a0 a1 a2 => .leaf (.inr (.b1 a0 a1 (w64 (a2 + (1 : Int)))))
noncomputable def m_connect_within (a0 : List connect_span) : Option Bool := flow T_connect_within (.b0 a0)
noncomputable def M_connect_within : Mod U := { ts := [240], rt := 4, fn := fun x => m_connect_within x.1, ok := by decide }
noncomputable def A_connect_within : Nat → Option (List Nat)
  | 2 => some [5, 6, 7]
  | 6 => some [5, 6, 7]
  | _ => none
noncomputable def mods_connect_within : FuncId → Option (Mod U)
  | _ => none
noncomputable def c_connect_within : Code := bodyOf Tryz.f124
noncomputable def sp_connect_within : P_connect_within → Spot U
  | .b0 a0 => ⟨c_connect_within, [], entryS [240] (a0, ()) 24, false⟩
  | .b1 a0 a1 a2 => ⟨(nav c_connect_within [1, 0, 1, 0, 0, 0] []).1, (nav c_connect_within [1, 0, 1, 0, 0, 0] []).2, ⟨[.und, .und, .und, .und, .und, .sl 174 a0, .si .i64 a1, .si .i64 a2, .und, .und, .und, .und, .und, .und, .und, .und, .und, .und, .und, .und, .und, .und, .und, .und], []⟩, true⟩
  | .b2 a0 a1 a2 => ⟨(nav c_connect_within [1, 0, 1, 0, 0, 1, 1, 1] []).1, (nav c_connect_within [1, 0, 1, 0, 0, 1, 1, 1] []).2, ⟨[.und, .und, .und, .und, .und, .sl 174 a0, .si .i64 a1, .si .i64 a2, .und, .und, .und, .und, .und, .und, .und, .und, .und, .und, .und, .und, .und, .und, .und, .und], []⟩, true⟩
theorem blk_connect_within : ∀ p, Le.runT (EV Tryz.prog gl 124 mods_connect_within noH) (mdlOf mods_connect_within noH) A_connect_within 124 Tryz.f124 0 (doneP (EV Tryz.prog gl 124 mods_connect_within noH) Tryz.f124) 1000 (.run (sp_connect_within p).c) (sp_connect_within p).K (sp_connect_within p).st (sp_connect_within p).sk = (T_connect_within p).map (leafOf (outP (U := U) 4) sp_connect_within)
  | .b0 a0 => by kernel_rfl
  | .b1 a0 a1 a2 => by kernel_rfl
  | .b2 a0 a1 a2 => by kernel_rfl
theorem ok_connect_within : FnOK Tryz.prog B0 124 M_connect_within := by
  refine fn_flow rfl (univ_ok _ rfl) mix_ok (fn := Tryz.f124) (c := c_connect_within) (mods := mods_connect_within) (hmods := noH) ?_ (fun g k m h => by cases h) Tryz.func124 (by kernel_rfl) (by kernel_rfl) (by kernel_rfl) M_connect_within T_connect_within sp_connect_within blk_connect_within (fun x => .b0 x.1) (fun x => rfl) (fun x => rfl)
  intro g m h
  cases h

/-! wireless/connect.CheckUpdate -/
inductive P_connect_CheckUpdate where
  | b0 (a0 : api_Update)
noncomputable def T_connect_CheckUpdate : P_connect_CheckUpdate → Tr U (Int ⊕ P_connect_CheckUpdate)
  | .b0 a0 => .chk (([(⟨a0.WinSize, (1 : Int), (8 : Int)⟩ : connect_span), (⟨a0.WinOffset, (0 : Int), (3200 : Int)⟩ : connect_span), (⟨a0.Interval, (6 : Int), (3200 : Int)⟩ : connect_span), (⟨a0.Latency, (0 : Int), (499 : Int)⟩ : connect_span), (⟨a0.Timeout, (10 : Int), (3200 : Int)⟩ : connect_span)]).length == 5) (
    .bind 4 (m_connect_within ([(⟨a0.WinSize, (1 : Int), (8 : Int)⟩ : connect_span), (⟨a0.WinOffset, (0 : Int), (3200 : Int)⟩ : connect_span), (⟨a0.Interval, (6 : Int), (3200 : Int)⟩ : connect_span), (⟨a0.Latency, (0 : Int), (499 : Int)⟩ : connect_span), (⟨a0.Timeout, (10 : Int), (3200 : Int)⟩ : connect_span)])) (fun (x1 : Bool) => 
      .br (!x1) (
        .leaf (.inl (5 : Int))) (
        .br (decide (a0.WinSize ≥ a0.Interval)) (
          .leaf (.inl (11 : Int))) (
          .br (decide (a0.WinOffset > a0.Interval)) (
            .leaf (.inl (11 : Int))) (
            .br (decide ((w64 (a0.Timeout * (10000 : Int))) ≤ (w64 ((w64 ((w64 ((2 : Int) * (w64 (a0.Latency + (1 : Int))))) * a0.Interval)) * (1250 : Int))))) (
              .leaf (.inl (11 : Int))) (
              .leaf (.inl (0 : Int))))))))
noncomputable def m_connect_CheckUpdate (a0 : api_Update) : Option Int := flow T_connect_CheckUpdate (.b0 a0)
noncomputable def M_connect_CheckUpdate : Mod U := { ts := [24], rt := 45, fn := fun x => m_connect_CheckUpdate x.1, ok := by decide }
noncomputable def A_connect_CheckUpdate : Nat → Option (List Nat)
  | _ => none
noncomputable def mods_connect_CheckUpdate : FuncId → Option (Mod U)
  | 124 => some M_connect_within
  | _ => none
noncomputable def c_connect_CheckUpdate : Code := bodyOf Tryz.f122
noncomputable def sp_connect_CheckUpdate : P_connect_CheckUpdate → Spot U
  | .b0 a0 => ⟨c_connect_CheckUpdate, [], entryS [24] (a0, ()) 47, false⟩
theorem blk_connect_CheckUpdate : ∀ p, Le.runT (EV Tryz.prog gl 122 mods_connect_CheckUpdate noH) (mdlOf mods_connect_CheckUpdate noH) A_connect_CheckUpdate 122 Tryz.f122 0 (doneP (EV Tryz.prog gl 122 mods_connect_CheckUpdate noH) Tryz.f122) 1000 (.run (sp_connect_CheckUpdate p).c) (sp_connect_CheckUpdate p).K (sp_connect_CheckUpdate p).st (sp_connect_CheckUpdate p).sk = (T_connect_CheckUpdate p).map (leafOf (outP (U := U) 45) sp_connect_CheckUpdate)
  | .b0 a0 => by kernel_rfl
theorem ok_connect_CheckUpdate : FnOK Tryz.prog B0 122 M_connect_CheckUpdate := by
  refine fn_flow rfl (univ_ok _ rfl) mix_ok (fn := Tryz.f122) (c := c_connect_CheckUpdate) (mods := mods_connect_CheckUpdate) (hmods := noH) ?_ (fun g k m h => by cases h) Tryz.func122 (by kernel_rfl) (by kernel_rfl) (by kernel_rfl) M_connect_CheckUpdate T_connect_CheckUpdate sp_connect_CheckUpdate blk_connect_CheckUpdate (fun x => .b0 x.1) (fun x => rfl) (fun x => rfl)
  intro g m h
  unfold mods_connect_CheckUpdate at h
  split at h <;> cases h
  · exact ok_connect_within

/-! math/bits.OnesCount64 -/
inductive P_math_bits_OnesCount64 where
  | b0 (a0 : Int)
noncomputable def T_math_bits_OnesCount64 : P_math_bits_OnesCount64 → Tr U (Int ⊕ P_math_bits_OnesCount64)
  | .b0 a0 => .leaf (.inl (bits .and .i64 (w64 ((IntKind.wrap .u64 ((IntKind.wrap .u64 ((IntKind.wrap .u64 ((bits .and .u64 (IntKind.wrap .u64 ((Int.fdiv (IntKind.wrap .u64 ((bits .and .u64 (Int.fdiv (IntKind.wrap .u64 ((bits .and .u64 (Int.fdiv a0 (2 ^ (1 : Nat))) (6148914691236517205 : Int)) + (bits .and .u64 a0 (6148914691236517205 : Int)))) (2 ^ (2 : Nat))) (3689348814741910323 : Int)) + (bits .and .u64 (IntKind.wrap .u64 ((bits .and .u64 (Int.fdiv a0 (2 ^ (1 : Nat))) (6148914691236517205 : Int)) + (bits .and .u64 a0 (6148914691236517205 : Int)))) (3689348814741910323 : Int)))) (2 ^ (4 : Nat))) + (IntKind.wrap .u64 ((bits .and .u64 (Int.fdiv (IntKind.wrap .u64 ((bits .and .u64 (Int.fdiv a0 (2 ^ (1 : Nat))) (6148914691236517205 : Int)) + (bits .and .u64 a0 (6148914691236517205 : Int)))) (2 ^ (2 : Nat))) (3689348814741910323 : Int)) + (bits .and .u64 (IntKind.wrap .u64 ((bits .and .u64 (Int.fdiv a0 (2 ^ (1 : Nat))) (6148914691236517205 : Int)) + (bits .and .u64 a0 (6148914691236517205 : Int)))) (3689348814741910323 : Int)))))) (1085102592571150095 : Int)) + (Int.fdiv (bits .and .u64 (IntKind.wrap .u64 ((Int.fdiv (IntKind.wrap .u64 ((bits .and .u64 (Int.fdiv (IntKind.wrap .u64 ((bits .and .u64 (Int.fdiv a0 (2 ^ (1 : Nat))) (6148914691236517205 : Int)) + (bits .and .u64 a0 (6148914691236517205 : Int)))) (2 ^ (2 : Nat))) (3689348814741910323 : Int)) + (bits .and .u64 (IntKind.wrap .u64 ((bits .and .u64 (Int.fdiv a0 (2 ^ (1 : Nat))) (6148914691236517205 : Int)) + (bits .and .u64 a0 (6148914691236517205 : Int)))) (3689348814741910323 : Int)))) (2 ^ (4 : Nat))) + (IntKind.wrap .u64 ((bits .and .u64 (Int.fdiv (IntKind.wrap .u64 ((bits .and .u64 (Int.fdiv a0 (2 ^ (1 : Nat))) (6148914691236517205 : Int)) + (bits .and .u64 a0 (6148914691236517205 : Int)))) (2 ^ (2 : Nat))) (3689348814741910323 : Int)) + (bits .and .u64 (IntKind.wrap .u64 ((bits .and .u64 (Int.fdiv a0 (2 ^ (1 : Nat))) (6148914691236517205 : Int)) + (bits .and .u64 a0 (6148914691236517205 : Int)))) (3689348814741910323 : Int)))))) (1085102592571150095 : Int)) (2 ^ (8 : Nat))))) + (Int.fdiv (IntKind.wrap .u64 ((bits .and .u64 (IntKind.wrap .u64 ((Int.fdiv (IntKind.wrap .u64 ((bits .and .u64 (Int.fdiv (IntKind.wrap .u64 ((bits .and .u64 (Int.fdiv a0 (2 ^ (1 : Nat))) (6148914691236517205 : Int)) + (bits .and .u64 a0 (6148914691236517205 : Int)))) (2 ^ (2 : Nat))) (3689348814741910323 : Int)) + (bits .and .u64 (IntKind.wrap .u64 ((bits .and .u64 (Int.fdiv a0 (2 ^ (1 : Nat))) (6148914691236517205 : Int)) + (bits .and .u64 a0 (6148914691236517205 : Int)))) (3689348814741910323 : Int)))) (2 ^ (4 : Nat))) + (IntKind.wrap .u64 ((bits .and .u64 (Int.fdiv (IntKind.wrap .u64 ((bits .and .u64 (Int.fdiv a0 (2 ^ (1 : Nat))) (6148914691236517205 : Int)) + (bits .and .u64 a0 (6148914691236517205 : Int)))) (2 ^ (2 : Nat))) (3689348814741910323 : Int)) + (bits .and .u64 (IntKind.wrap .u64 ((bits .and .u64 (Int.fdiv a0 (2 ^ (1 : Nat))) (6148914691236517205 : Int)) + (bits .and .u64 a0 (6148914691236517205 : Int)))) (3689348814741910323 : Int)))))) (1085102592571150095 : Int)) + (Int.fdiv (bits .and .u64 (IntKind.wrap .u64 ((Int.fdiv (IntKind.wrap .u64 ((bits .and .u64 (Int.fdiv (IntKind.wrap .u64 ((bits .and .u64 (Int.fdiv a0 (2 ^ (1 : Nat))) (6148914691236517205 : Int)) + (bits .and .u64 a0 (6148914691236517205 : Int)))) (2 ^ (2 : Nat))) (3689348814741910323 : Int)) + (bits .and .u64 (IntKind.wrap .u64 ((bits .and .u64 (Int.fdiv a0 (2 ^ (1 : Nat))) (6148914691236517205 : Int)) + (bits .and .u64 a0 (6148914691236517205 : Int)))) (3689348814741910323 : Int)))) (2 ^ (4 : Nat))) + (IntKind.wrap .u64 ((bits .and .u64 (Int.fdiv (IntKind.wrap .u64 ((bits .and .u64 (Int.fdiv a0 (2 ^ (1 : Nat))) (6148914691236517205 : Int)) + (bits .and .u64 a0 (6148914691236517205 : Int)))) (2 ^ (2 : Nat))) (3689348814741910323 : Int)) + (bits .and .u64 (IntKind.wrap .u64 ((bits .and .u64 (Int.fdiv a0 (2 ^ (1 : Nat))) (6148914691236517205 : Int)) + (bits .and .u64 a0 (6148914691236517205 : Int)))) (3689348814741910323 : Int)))))) (1085102592571150095 : Int)) (2 ^ (8 : Nat))))) (2 ^ (16 : Nat))))) + (Int.fdiv (IntKind.wrap .u64 ((IntKind.wrap .u64 ((bits .and .u64 (IntKind.wrap .u64 ((Int.fdiv (IntKind.wrap .u64 ((bits .and .u64 (Int.fdiv (IntKind.wrap .u64 ((bits .and .u64 (Int.fdiv a0 (2 ^ (1 : Nat))) (6148914691236517205 : Int)) + (bits .and .u64 a0 (6148914691236517205 : Int)))) (2 ^ (2 : Nat))) (3689348814741910323 : Int)) + (bits .and .u64 (IntKind.wrap .u64 ((bits .and .u64 (Int.fdiv a0 (2 ^ (1 : Nat))) (6148914691236517205 : Int)) + (bits .and .u64 a0 (6148914691236517205 : Int)))) (3689348814741910323 : Int)))) (2 ^ (4 : Nat))) + (IntKind.wrap .u64 ((bits .and .u64 (Int.fdiv (IntKind.wrap .u64 ((bits .and .u64 (Int.fdiv a0 (2 ^ (1 : Nat))) (6148914691236517205 : Int)) + (bits .and .u64 a0 (6148914691236517205 : Int)))) (2 ^ (2 : Nat))) (3689348814741910323 : Int)) + (bits .and .u64 (IntKind.wrap .u64 ((bits .and .u64 (Int.fdiv a0 (2 ^ (1 : Nat))) (6148914691236517205 : Int)) + (bits .and .u64 a0 (6148914691236517205 : Int)))) (3689348814741910323 : Int)))))) (1085102592571150095 : Int)) + (Int.fdiv (bits .and .u64 (IntKind.wrap .u64 ((Int.fdiv (IntKind.wrap .u64 ((bits .and .u64 (Int.fdiv (IntKind.wrap .u64 ((bits .and .u64 (Int.fdiv a0 (2 ^ (1 : Nat))) (6148914691236517205 : Int)) + (bits .and .u64 a0 (6148914691236517205 : Int)))) (2 ^ (2 : Nat))) (3689348814741910323 : Int)) + (bits .and .u64 (IntKind.wrap .u64 ((bits .and .u64 (Int.fdiv a0 (2 ^ (1 : Nat))) (6148914691236517205 : Int)) + (bits .and .u64 a0 (6148914691236517205 : Int)))) (3689348814741910323 : Int)))) (2 ^ (4 : Nat))) + (IntKind.wrap .u64 ((bits .and .u64 (Int.fdiv (IntKind.wrap .u64 ((bits .and .u64 (Int.fdiv a0 (2 ^ (1 : Nat))) (6148914691236517205 : Int)) + (bits .and .u64 a0 (6148914691236517205 : Int)))) (2 ^ (2 : Nat))) (3689348814741910323 : Int)) + (bits .and .u64 (IntKind.wrap .u64 ((bits .and .u64 (Int.fdiv a0 (2 ^ (1 : Nat))) (6148914691236517205 : Int)) + (bits .and .u64 a0 (6148914691236517205 : Int)))) (3689348814741910323 : Int)))))) (1085102592571150095 : Int)) (2 ^ (8 : Nat))))) + (Int.fdiv (IntKind.wrap .u64 ((bits .and .u64 (IntKind.wrap .u64 ((Int.fdiv (IntKind.wrap .u64 ((bits .and .u64 (Int.fdiv (IntKind.wrap .u64 ((bits .and .u64 (Int.fdiv a0 (2 ^ (1 : Nat))) (6148914691236517205 : Int)) + (bits .and .u64 a0 (6148914691236517205 : Int)))) (2 ^ (2 : Nat))) (3689348814741910323 : Int)) + (bits .and .u64 (IntKind.wrap .u64 ((bits .and .u64 (Int.fdiv a0 (2 ^ (1 : Nat))) (6148914691236517205 : Int)) + (bits .and .u64 a0 (6148914691236517205 : Int)))) (3689348814741910323 : Int)))) (2 ^ (4 : Nat))) + (IntKind.wrap .u64 ((bits .and .u64 (Int.fdiv (IntKind.wrap .u64 ((bits .and .u64 (Int.fdiv a0 (2 ^ (1 : Nat))) (6148914691236517205 : Int)) + (bits .and .u64 a0 (6148914691236517205 : Int)))) (2 ^ (2 : Nat))) (3689348814741910323 : Int)) + (bits .and .u64 (IntKind.wrap .u64 ((bits .and .u64 (Int.fdiv a0 (2 ^ (1 : Nat))) (6148914691236517205 : Int)) + (bits .and .u64 a0 (6148914691236517205 : Int)))) (3689348814741910323 : Int)))))) (1085102592571150095 : Int)) + (Int.fdiv (bits .and .u64 (IntKind.wrap .u64 ((Int.fdiv (IntKind.wrap .u64 ((bits .and .u64 (Int.fdiv (IntKind.wrap .u64 ((bits .and .u64 (Int.fdiv a0 (2 ^ (1 : Nat))) (6148914691236517205 : Int)) + (bits .and .u64 a0 (6148914691236517205 : Int)))) (2 ^ (2 : Nat))) (3689348814741910323 : Int)) + (bits .and .u64 (IntKind.wrap .u64 ((bits .and .u64 (Int.fdiv a0 (2 ^ (1 : Nat))) (6148914691236517205 : Int)) + (bits .and .u64 a0 (6148914691236517205 : Int)))) (3689348814741910323 : Int)))) (2 ^ (4 : Nat))) + (IntKind.wrap .u64 ((bits .and .u64 (Int.fdiv (IntKind.wrap .u64 ((bits .and .u64 (Int.fdiv a0 (2 ^ (1 : Nat))) (6148914691236517205 : Int)) + (bits .and .u64 a0 (6148914691236517205 : Int)))) (2 ^ (2 : Nat))) (3689348814741910323 : Int)) + (bits .and .u64 (IntKind.wrap .u64 ((bits .and .u64 (Int.fdiv a0 (2 ^ (1 : Nat))) (6148914691236517205 : Int)) + (bits .and .u64 a0 (6148914691236517205 : Int)))) (3689348814741910323 : Int)))))) (1085102592571150095 : Int)) (2 ^ (8 : Nat))))) (2 ^ (16 : Nat))))) (2 ^ (32 : Nat))))))) (127 : Int)))
noncomputable def m_math_bits_OnesCount64 (a0 : Int) : Option Int := flow T_math_bits_OnesCount64 (.b0 a0)
noncomputable def M_math_bits_OnesCount64 : Mod U := { ts := [25], rt := 3, fn := fun x => m_math_bits_OnesCount64 x.1, ok := by decide }
noncomputable def A_math_bits_OnesCount64 : Nat → Option (List Nat)
  | _ => none
noncomputable def mods_math_bits_OnesCount64 : FuncId → Option (Mod U)
  | _ => none
noncomputable def c_math_bits_OnesCount64 : Code := bodyOf Tryz.f287
noncomputable def sp_math_bits_OnesCount64 : P_math_bits_OnesCount64 → Spot U
  | .b0 a0 => ⟨c_math_bits_OnesCount64, [], entryS [25] (a0, ()) 35, false⟩
theorem blk_math_bits_OnesCount64 : ∀ p, Le.runT (EV Tryz.prog gl 287 mods_math_bits_OnesCount64 noH) (mdlOf mods_math_bits_OnesCount64 noH) A_math_bits_OnesCount64 287 Tryz.f287 0 (doneP (EV Tryz.prog gl 287 mods_math_bits_OnesCount64 noH) Tryz.f287) 1000 (.run (sp_math_bits_OnesCount64 p).c) (sp_math_bits_OnesCount64 p).K (sp_math_bits_OnesCount64 p).st (sp_math_bits_OnesCount64 p).sk = (T_math_bits_OnesCount64 p).map (leafOf (outP (U := U) 3) sp_math_bits_OnesCount64)
  | .b0 a0 => by kernel_rfl
theorem ok_math_bits_OnesCount64 : FnOK Tryz.prog B0 287 M_math_bits_OnesCount64 := by
  refine fn_flow rfl (univ_ok _ rfl) mix_ok (fn := Tryz.f287) (c := c_math_bits_OnesCount64) (mods := mods_math_bits_OnesCount64) (hmods := noH) ?_ (fun g k m h => by cases h) Tryz.func287 (by kernel_rfl) (by kernel_rfl) (by kernel_rfl) M_math_bits_OnesCount64 T_math_bits_OnesCount64 sp_math_bits_OnesCount64 blk_math_bits_OnesCount64 (fun x => .b0 x.1) (fun x => rfl) (fun x => rfl)
  intro g m h
  cases h

/-! wireless/chanmap.Count -/
inductive P_chanmap_Count where
  | b0 (a0 : Int)
noncomputable def T_chanmap_Count : P_chanmap_Count → Tr U (Int ⊕ P_chanmap_Count)
  | .b0 a0 => .bind 3 (m_math_bits_OnesCount64 (bits .and .u64 a0 (137438953471 : Int))) (fun (x1 : Int) => 
    .leaf (.inl x1))
noncomputable def m_chanmap_Count (a0 : Int) : Option Int := flow T_chanmap_Count (.b0 a0)
noncomputable def M_chanmap_Count : Mod U := { ts := [26], rt := 3, fn := fun x => m_chanmap_Count x.1, ok := by decide }
noncomputable def A_chanmap_Count : Nat → Option (List Nat)
  | _ => none
noncomputable def mods_chanmap_Count : FuncId → Option (Mod U)
  | 287 => some M_math_bits_OnesCount64
  | _ => none
noncomputable def c_chanmap_Count : Code := bodyOf Tryz.f218
noncomputable def sp_chanmap_Count : P_chanmap_Count → Spot U
  | .b0 a0 => ⟨c_chanmap_Count, [], entryS [26] (a0, ()) 6, false⟩
theorem blk_chanmap_Count : ∀ p, Le.runT (EV Tryz.prog gl 218 mods_chanmap_Count noH) (mdlOf mods_chanmap_Count noH) A_chanmap_Count 218 Tryz.f218 0 (doneP (EV Tryz.prog gl 218 mods_chanmap_Count noH) Tryz.f218) 1000 (.run (sp_chanmap_Count p).c) (sp_chanmap_Count p).K (sp_chanmap_Count p).st (sp_chanmap_Count p).sk = (T_chanmap_Count p).map (leafOf (outP (U := U) 3) sp_chanmap_Count)
  | .b0 a0 => by kernel_rfl
theorem ok_chanmap_Count : FnOK Tryz.prog B0 218 M_chanmap_Count := by
  refine fn_flow rfl (univ_ok _ rfl) mix_ok (fn := Tryz.f218) (c := c_chanmap_Count) (mods := mods_chanmap_Count) (hmods := noH) ?_ (fun g k m h => by cases h) Tryz.func218 (by kernel_rfl) (by kernel_rfl) (by kernel_rfl) M_chanmap_Count T_chanmap_Count sp_chanmap_Count blk_chanmap_Count (fun x => .b0 x.1) (fun x => rfl) (fun x => rfl)
  intro g m h
  unfold mods_chanmap_Count at h
  split at h <;> cases h
  · exact ok_math_bits_OnesCount64

/-! wireless/chanmap.Check -/
inductive P_chanmap_Check where
  | b0 (a0 : Int)
noncomputable def T_chanmap_Check : P_chanmap_Check → Tr U (Int ⊕ P_chanmap_Check)
  | .b0 a0 => .br ((bits .andNot .u64 a0 (137438953471 : Int)) != (0 : Int)) (
    .leaf (.inl (5 : Int))) (
    .bind 3 (m_chanmap_Count a0) (fun (x1 : Int) => 
      .br (decide (x1 < (2 : Int))) (
        .leaf (.inl (1 : Int))) (
        .leaf (.inl (0 : Int)))))
noncomputable def m_chanmap_Check (a0 : Int) : Option Int := flow T_chanmap_Check (.b0 a0)
noncomputable def M_chanmap_Check : Mod U := { ts := [26], rt := 45, fn := fun x => m_chanmap_Check x.1, ok := by decide }
noncomputable def A_chanmap_Check : Nat → Option (List Nat)
  | _ => none
noncomputable def mods_chanmap_Check : FuncId → Option (Mod U)
  | 218 => some M_chanmap_Count
  | _ => none
noncomputable def c_chanmap_Check : Code := bodyOf Tryz.f123
noncomputable def sp_chanmap_Check : P_chanmap_Check → Spot U
  | .b0 a0 => ⟨c_chanmap_Check, [], entryS [26] (a0, ()) 9, false⟩
theorem blk_chanmap_Check : ∀ p, Le.runT (EV Tryz.prog gl 123 mods_chanmap_Check noH) (mdlOf mods_chanmap_Check noH) A_chanmap_Check 123 Tryz.f123 0 (doneP (EV Tryz.prog gl 123 mods_chanmap_Check noH) Tryz.f123) 1000 (.run (sp_chanmap_Check p).c) (sp_chanmap_Check p).K (sp_chanmap_Check p).st (sp_chanmap_Check p).sk = (T_chanmap_Check p).map (leafOf (outP (U := U) 45) sp_chanmap_Check)
  | .b0 a0 => by kernel_rfl
theorem ok_chanmap_Check : FnOK Tryz.prog B0 123 M_chanmap_Check := by
  refine fn_flow rfl (univ_ok _ rfl) mix_ok (fn := Tryz.f123) (c := c_chanmap_Check) (mods := mods_chanmap_Check) (hmods := noH) ?_ (fun g k m h => by cases h) Tryz.func123 (by kernel_rfl) (by kernel_rfl) (by kernel_rfl) M_chanmap_Check T_chanmap_Check sp_chanmap_Check blk_chanmap_Check (fun x => .b0 x.1) (fun x => rfl) (fun x => rfl)
  intro g m h
  unfold mods_chanmap_Check at h
  split at h <;> cases h
  · exact ok_chanmap_Count

/-! wireless/connect.Check -/
inductive P_connect_Check where
  | b0 (a0 : api_ConnParams)
  | b1 (a0 : api_ConnParams)
noncomputable def T_connect_Check : P_connect_Check → Tr U (Int ⊕ P_connect_Check)
  | .b0 a0 => .br (a0.Access == (0 : Int)) (
    .leaf (.inl (1 : Int))) (
    .br (a0.Access == (2391391958 : Int)) (
      .leaf (.inl (1 : Int))) (
      .leaf (.inr (.b1 a0))))
  | .b1 a0 => .br (decide (a0.Init ≥ (16777216 : Int))) (
    .leaf (.inl (5 : Int))) (
    .bind 45 (m_connect_CheckUpdate a0.Update) (fun (x1 : Int) => 
      .br (x1 != (0 : Int)) (
        .leaf (.inl x1)) (
        .bind 45 (m_chanmap_Check a0.Map) (fun (x2 : Int) => 
          .br (x2 != (0 : Int)) (
            .leaf (.inl x2)) (
            .chk (([(⟨a0.Hop, (5 : Int), (16 : Int)⟩ : connect_span), (⟨a0.PPM, (0 : Int), (500 : Int)⟩ : connect_span)]).length == 2) (
              .bind 4 (m_connect_within ([(⟨a0.Hop, (5 : Int), (16 : Int)⟩ : connect_span), (⟨a0.PPM, (0 : Int), (500 : Int)⟩ : connect_span)])) (fun (x3 : Bool) => 
                .br (!x3) (
                  .leaf (.inl (5 : Int))) (
                  .br (a0.Algorithm != (1 : Int)) (
                    .br (a0.Algorithm != (2 : Int)) (
                      .leaf (.inl (12 : Int))) (
                      .leaf (.inl (0 : Int)))) (
                    .leaf (.inl (0 : Int)))))))))))
noncomputable def m_connect_Check (a0 : api_ConnParams) : Option Int := flow T_connect_Check (.b0 a0)
noncomputable def M_connect_Check : Mod U := { ts := [28], rt := 45, fn := fun x => m_connect_Check x.1, ok := by decide }
noncomputable def A_connect_Check : Nat → Option (List Nat)
  | 3 => some [1]
  | _ => none
noncomputable def mods_connect_Check : FuncId → Option (Mod U)
  | 122 => some M_connect_CheckUpdate
  | 123 => some M_chanmap_Check
  | 124 => some M_connect_within
  | _ => none
noncomputable def c_connect_Check : Code := bodyOf Tryz.f37
noncomputable def sp_connect_Check : P_connect_Check → Spot U
  | .b0 a0 => ⟨c_connect_Check, [], entryS [28] (a0, ()) 45, false⟩
  | .b1 a0 => ⟨(nav c_connect_Check [1, 1, 0, 0] []).1, (nav c_connect_Check [1, 1, 0, 0] []).2, ⟨[.und, .ptr 0 0 0 1, .und, .und, .und, .und, .und, .und, .und, .und, .und, .und, .und, .und, .und, .und, .und, .und, .und, .und, .und, .und, .und, .und, .und, .und, .und, .und, .und, .und, .und, .und, .und, .und, .und, .und, .und, .und, .und, .und, .und, .und, .und, .und, .und], [.var 28 11 (U.encS 28 a0)]⟩, true⟩
theorem blk_connect_Check : ∀ p, Le.runT (EV Tryz.prog gl 37 mods_connect_Check noH) (mdlOf mods_connect_Check noH) A_connect_Check 37 Tryz.f37 0 (doneP (EV Tryz.prog gl 37 mods_connect_Check noH) Tryz.f37) 1000 (.run (sp_connect_Check p).c) (sp_connect_Check p).K (sp_connect_Check p).st (sp_connect_Check p).sk = (T_connect_Check p).map (leafOf (outP (U := U) 45) sp_connect_Check)
  | .b0 a0 => by kernel_rfl
  | .b1 a0 => by kernel_rfl
theorem ok_connect_Check : FnOK Tryz.prog B0 37 M_connect_Check := by
  refine fn_flow rfl (univ_ok _ rfl) mix_ok (fn := Tryz.f37) (c := c_connect_Check) (mods := mods_connect_Check) (hmods := noH) ?_ (fun g k m h => by cases h) Tryz.func37 (by kernel_rfl) (by kernel_rfl) (by kernel_rfl) M_connect_Check T_connect_Check sp_connect_Check blk_connect_Check (fun x => .b0 x.1) (fun x => rfl) (fun x => rfl)
  intro g m h
  unfold mods_connect_Check at h
  split at h <;> cases h
  · exact ok_connect_CheckUpdate
  · exact ok_chanmap_Check
  · exact ok_connect_within

/-! wireless/connect.limit -/
inductive P_connect_limit where
  | b0 (a0 : Int) (a1 : Int) (a2 : Int)
noncomputable def T_connect_limit : P_connect_limit → Tr U (Int ⊕ P_connect_limit)
  | .b0 a0 a1 a2 => .leaf (.inl (if a2 < (if a1 > a0 then a1 else a0) then a2 else (if a1 > a0 then a1 else a0)))
noncomputable def m_connect_limit (a0 : Int) (a1 : Int) (a2 : Int) : Option Int := flow T_connect_limit (.b0 a0 a1 a2)
noncomputable def M_connect_limit : Mod U := { ts := [3, 3, 3], rt := 3, fn := fun x => m_connect_limit x.1 x.2.1 x.2.2.1, ok := by decide }
noncomputable def A_connect_limit : Nat → Option (List Nat)
  | _ => none
noncomputable def mods_connect_limit : FuncId → Option (Mod U)
  | _ => none
noncomputable def c_connect_limit : Code := bodyOf Tryz.f219
noncomputable def sp_connect_limit : P_connect_limit → Spot U
  | .b0 a0 a1 a2 => ⟨c_connect_limit, [], entryS [3, 3, 3] (a0, a1, a2, ()) 12, false⟩
theorem blk_connect_limit : ∀ p, Le.runT (EV Tryz.prog gl 219 mods_connect_limit noH) (mdlOf mods_connect_limit noH) A_connect_limit 219 Tryz.f219 0 (doneP (EV Tryz.prog gl 219 mods_connect_limit noH) Tryz.f219) 1000 (.run (sp_connect_limit p).c) (sp_connect_limit p).K (sp_connect_limit p).st (sp_connect_limit p).sk = (T_connect_limit p).map (leafOf (outP (U := U) 3) sp_connect_limit)
  | .b0 a0 a1 a2 => by kernel_rfl
theorem ok_connect_limit : FnOK Tryz.prog B0 219 M_connect_limit := by
  refine fn_flow rfl (univ_ok _ rfl) mix_ok (fn := Tryz.f219) (c := c_connect_limit) (mods := mods_connect_limit) (hmods := noH) ?_ (fun g k m h => by cases h) Tryz.func219 (by kernel_rfl) (by kernel_rfl) (by kernel_rfl) M_connect_limit T_connect_limit sp_connect_limit blk_connect_limit (fun x => .b0 x.1 x.2.1 x.2.2.1) (fun x => rfl) (fun x => rfl)
  intro g m h
  cases h

/-! wireless/connect.limited -/
inductive P_connect_limited where
  | b0 (a0 : api_Update)
noncomputable def T_connect_limited : P_connect_limited → Tr U (api_Update ⊕ P_connect_limited)
  | .b0 a0 => .bind 3 (m_connect_limit a0.WinSize (1 : Int) (8 : Int)) (fun (x1 : Int) => 
    .bind 3 (m_connect_limit a0.WinOffset (0 : Int) (3200 : Int)) (fun (x2 : Int) => 
      .bind 3 (m_connect_limit a0.Interval (6 : Int) (3200 : Int)) (fun (x3 : Int) => 
        .bind 3 (m_connect_limit a0.Timeout (10 : Int) (3200 : Int)) (fun (x4 : Int) => 
          .leaf (.inl (⟨x1, x2, x3, a0.Latency, x4⟩ : api_Update))))))
noncomputable def m_connect_limited (a0 : api_Update) : Option api_Update := flow T_connect_limited (.b0 a0)
noncomputable def M_connect_limited : Mod U := { ts := [24], rt := 24, fn := fun x => m_connect_limited x.1, ok := by decide }
noncomputable def A_connect_limited : Nat → Option (List Nat)
  | _ => none
noncomputable def mods_connect_limited : FuncId → Option (Mod U)
  | 219 => some M_connect_limit
  | _ => none
noncomputable def c_connect_limited : Code := bodyOf Tryz.f125
noncomputable def sp_connect_limited : P_connect_limited → Spot U
  | .b0 a0 => ⟨c_connect_limited, [], entryS [24] (a0, ()) 20, false⟩
theorem blk_connect_limited : ∀ p, Le.runT (EV Tryz.prog gl 125 mods_connect_limited noH) (mdlOf mods_connect_limited noH) A_connect_limited 125 Tryz.f125 0 (doneP (EV Tryz.prog gl 125 mods_connect_limited noH) Tryz.f125) 1000 (.run (sp_connect_limited p).c) (sp_connect_limited p).K (sp_connect_limited p).st (sp_connect_limited p).sk = (T_connect_limited p).map (leafOf (outP (U := U) 24) sp_connect_limited)
  | .b0 a0 => by kernel_rfl
theorem ok_connect_limited : FnOK Tryz.prog B0 125 M_connect_limited := by
  refine fn_flow rfl (univ_ok _ rfl) mix_ok (fn := Tryz.f125) (c := c_connect_limited) (mods := mods_connect_limited) (hmods := noH) ?_ (fun g k m h => by cases h) Tryz.func125 (by kernel_rfl) (by kernel_rfl) (by kernel_rfl) M_connect_limited T_connect_limited sp_connect_limited blk_connect_limited (fun x => .b0 x.1) (fun x => rfl) (fun x => rfl)
  intro g m h
  unfold mods_connect_limited at h
  split at h <;> cases h
  · exact ok_connect_limit

/-! wireless/connect.moment -/
inductive P_connect_moment where
  | b0 (a0 : Int)
noncomputable def T_connect_moment : P_connect_moment → Tr U (Int ⊕ P_connect_moment)
  | .b0 a0 => .bind 3 (m_connect_limit a0 (0 : Int) (4398046511104 : Int)) (fun (x1 : Int) => 
    .leaf (.inl x1))
noncomputable def m_connect_moment (a0 : Int) : Option Int := flow T_connect_moment (.b0 a0)
noncomputable def M_connect_moment : Mod U := { ts := [3], rt := 3, fn := fun x => m_connect_moment x.1, ok := by decide }
noncomputable def A_connect_moment : Nat → Option (List Nat)
  | _ => none
noncomputable def mods_connect_moment : FuncId → Option (Mod U)
  | 219 => some M_connect_limit
  | _ => none
noncomputable def c_connect_moment : Code := bodyOf Tryz.f126
noncomputable def sp_connect_moment : P_connect_moment → Spot U
  | .b0 a0 => ⟨c_connect_moment, [], entryS [3] (a0, ()) 5, false⟩
theorem blk_connect_moment : ∀ p, Le.runT (EV Tryz.prog gl 126 mods_connect_moment noH) (mdlOf mods_connect_moment noH) A_connect_moment 126 Tryz.f126 0 (doneP (EV Tryz.prog gl 126 mods_connect_moment noH) Tryz.f126) 1000 (.run (sp_connect_moment p).c) (sp_connect_moment p).K (sp_connect_moment p).st (sp_connect_moment p).sk = (T_connect_moment p).map (leafOf (outP (U := U) 3) sp_connect_moment)
  | .b0 a0 => by kernel_rfl
theorem ok_connect_moment : FnOK Tryz.prog B0 126 M_connect_moment := by
  refine fn_flow rfl (univ_ok _ rfl) mix_ok (fn := Tryz.f126) (c := c_connect_moment) (mods := mods_connect_moment) (hmods := noH) ?_ (fun g k m h => by cases h) Tryz.func126 (by kernel_rfl) (by kernel_rfl) (by kernel_rfl) M_connect_moment T_connect_moment sp_connect_moment blk_connect_moment (fun x => .b0 x.1) (fun x => rfl) (fun x => rfl)
  intro g m h
  unfold mods_connect_moment at h
  split at h <;> cases h
  · exact ok_connect_limit

/-! wireless/connect.First -/
inductive P_connect_First where
  | b0 (a0 : Int) (a1 : api_Update)
noncomputable def T_connect_First : P_connect_First → Tr U (api_Window ⊕ P_connect_First)
  | .b0 a0 a1 => .bind 24 (m_connect_limited a1) (fun (x1 : api_Update) => 
    .bind 3 (m_connect_moment a0) (fun (x2 : Int) => 
      .leaf (.inl (⟨(w64 (x2 + (w64 ((w64 ((1 : Int) + x1.WinOffset)) * (1250 : Int))))), (w64 ((w64 (x2 + (w64 ((w64 ((1 : Int) + x1.WinOffset)) * (1250 : Int))))) + (w64 (x1.WinSize * (1250 : Int)))))⟩ : api_Window))))
noncomputable def m_connect_First (a0 : Int) (a1 : api_Update) : Option api_Window := flow T_connect_First (.b0 a0 a1)
noncomputable def M_connect_First : Mod U := { ts := [3, 24], rt := 52, fn := fun x => m_connect_First x.1 x.2.1, ok := by decide }
noncomputable def A_connect_First : Nat → Option (List Nat)
  | _ => none
noncomputable def mods_connect_First : FuncId → Option (Mod U)
  | 125 => some M_connect_limited
  | 126 => some M_connect_moment
  | _ => none
noncomputable def c_connect_First : Code := bodyOf Tryz.f38
noncomputable def sp_connect_First : P_connect_First → Spot U
  | .b0 a0 a1 => ⟨c_connect_First, [], entryS [3, 24] (a0, a1, ()) 22, false⟩
theorem blk_connect_First : ∀ p, Le.runT (EV Tryz.prog gl 38 mods_connect_First noH) (mdlOf mods_connect_First noH) A_connect_First 38 Tryz.f38 0 (doneP (EV Tryz.prog gl 38 mods_connect_First noH) Tryz.f38) 1000 (.run (sp_connect_First p).c) (sp_connect_First p).K (sp_connect_First p).st (sp_connect_First p).sk = (T_connect_First p).map (leafOf (outP (U := U) 52) sp_connect_First)
  | .b0 a0 a1 => by kernel_rfl
theorem ok_connect_First : FnOK Tryz.prog B0 38 M_connect_First := by
  refine fn_flow rfl (univ_ok _ rfl) mix_ok (fn := Tryz.f38) (c := c_connect_First) (mods := mods_connect_First) (hmods := noH) ?_ (fun g k m h => by cases h) Tryz.func38 (by kernel_rfl) (by kernel_rfl) (by kernel_rfl) M_connect_First T_connect_First sp_connect_First blk_connect_First (fun x => .b0 x.1 x.2.1) (fun x => rfl) (fun x => rfl)
  intro g m h
  unfold mods_connect_First at h
  split at h <;> cases h
  · exact ok_connect_limited
  · exact ok_connect_moment

end Go.Proofs.YtjodhcdmhobmoaaGreatDoor
