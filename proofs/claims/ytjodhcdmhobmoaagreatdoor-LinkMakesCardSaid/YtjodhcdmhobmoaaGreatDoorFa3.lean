/-
  Functions of the program as functions of Lean (printed by a program of mine).
-/
import Derived.Test.YtjodhcdmhobmoaaGreatDoorFa2
namespace Go.Proofs.YtjodhcdmhobmoaaGreatDoor
open Go Go.Proofs.YtjodhcdmhobmoaaGreatDoor.Le
set_option linter.unusedVariables false
set_option maxRecDepth 100000
/-! wireless/wirelessref12.Has -/
inductive P_r12_Has where
  | b0 (a0 : Int) (a1 : Int)
noncomputable def T_r12_Has : P_r12_Has → Tr U (Bool ⊕ P_r12_Has)
  | .b0 a0 a1 => .br (decide (a1 ≥ (0 : Int))) (
    .br (decide (a1 ≤ (36 : Int))) (
      .bind 25 (m_r01_Power a1) (fun (x1 : Int) => 
        .chk (x1 != 0) (
          .leaf (.inl ((Int.tmod (IntKind.wrap .u64 (Int.tdiv a0 x1)) (2 : Int)) == (1 : Int)))))) (
      .leaf (.inl false))) (
    .leaf (.inl false))
noncomputable def m_r12_Has (a0 : Int) (a1 : Int) : Option Bool := flow T_r12_Has (.b0 a0 a1)
noncomputable def M_r12_Has : Mod U := { ts := [26, 3], rt := 4, fn := fun x => m_r12_Has x.1 x.2.1, ok := by decide }
noncomputable def A_r12_Has : Nat → Option (List Nat)
  | _ => none
noncomputable def mods_r12_Has : FuncId → Option (Mod U)
  | 220 => some M_r01_Power
  | _ => none
noncomputable def c_r12_Has : Code := bodyOf Tryz.f225
noncomputable def sp_r12_Has : P_r12_Has → Spot U
  | .b0 a0 a1 => ⟨c_r12_Has, [], entryS [26, 3] (a0, a1, ()) 19, false⟩
theorem blk_r12_Has : ∀ p, Le.runT (EV Tryz.prog gl 225 mods_r12_Has noH) (mdlOf mods_r12_Has noH) A_r12_Has 225 Tryz.f225 0 (doneP (EV Tryz.prog gl 225 mods_r12_Has noH) Tryz.f225) 1000 (.run (sp_r12_Has p).c) (sp_r12_Has p).K (sp_r12_Has p).st (sp_r12_Has p).sk = (T_r12_Has p).map (leafOf (outP (U := U) 4) sp_r12_Has)
  | .b0 a0 a1 => by kernel_rfl
theorem ok_r12_Has : FnOK Tryz.prog B0 225 M_r12_Has := by
  refine fn_flow rfl (univ_ok _ rfl) mix_ok (fn := Tryz.f225) (c := c_r12_Has) (mods := mods_r12_Has) (hmods := noH) ?_ (fun g k m h => by cases h) Tryz.func225 (by kernel_rfl) (by kernel_rfl) (by kernel_rfl) M_r12_Has T_r12_Has sp_r12_Has blk_r12_Has (fun x => .b0 x.1 x.2.1) (fun x => rfl) (fun x => rfl)
  intro g m h
  unfold mods_r12_Has at h
  split at h <;> cases h
  · exact ok_r01_Power

/-! wireless/wirelessref12.List -/
inductive P_r12_List where
  | b0 (a0 : Int)
  | b1 (a0 : List Int) (a1 : Int) (a2 : Int)
  | b2 (a0 : List Int) (a1 : Int) (a2 : Int)
noncomputable def T_r12_List : P_r12_List → Tr U ((List Int) ⊕ P_r12_List)
  | .b0 a0 => .chk (([] : List Int).length == 0) (
    .leaf (.inr (.b1 ([] : List Int) a0 (0 : Int))))
  | .b1 a0 a1 a2 => .br (decide (a2 ≤ (36 : Int))) (
    .bind 4 (m_r12_Has a1 a2) (fun (x1 : Bool) => 
      .br x1 (
        .chk (([a2]).length == 1) (
          .chk (a0.length == a0.length) (
            .chk (decide ((a0.length + ([a2]).length) * 8 ≤ lim) && decide (a0.length + ([a2]).length ≤ maxLen)) (
              .chk ((a0 ++ [a2]).length == (a0 ++ [a2]).length) (
                .leaf (.inr (.b2 (a0 ++ [a2]) a1 a2))))))) (
        .chk (a0.length == a0.length) (
          .leaf (.inr (.b2 a0 a1 a2)))))) (
    .chk (a0.length == a0.length) (
      .leaf (.inl a0)))
  | .b2 a0 a1 a2 => .chk (a0.length == a0.length) (
    .leaf (.inr (.b1 a0 a1 (w64 (a2 + (1 : Int))))))
noncomputable def m_r12_List (a0 : Int) : Option (List Int) := flow T_r12_List (.b0 a0)
noncomputable def M_r12_List : Mod U := { ts := [26], rt := 226, fn := fun x => m_r12_List x.1, ok := by decide }
noncomputable def A_r12_List : Nat → Option (List Nat)
  | 3 => some [0, 3, 4]
  | 4 => some [0, 3, 4]
  | _ => none
noncomputable def mods_r12_List : FuncId → Option (Mod U)
  | 225 => some M_r12_Has
  | _ => none
noncomputable def c_r12_List : Code := bodyOf Tryz.f202
noncomputable def sp_r12_List : P_r12_List → Spot U
  | .b0 a0 => ⟨c_r12_List, [], entryS [26] (a0, ()) 18, false⟩
  | .b1 a0 a1 a2 => ⟨(nav c_r12_List [1, 1, 0, 1, 0, 0, 0, 0] []).1, (nav c_r12_List [1, 1, 0, 1, 0, 0, 0, 0] []).2, ⟨[.si .u64 a1, .und, .und, .all 0 a0.length, .si .i64 a2, .und, .und, .und, .und, .und, .und, .und, .und, .und, .und, .und, .und, .und], [.row 3 a0 none]⟩, true⟩
  | .b2 a0 a1 a2 => ⟨(nav c_r12_List [1, 1, 0, 1, 0, 0, 1, 1] []).1, (nav c_r12_List [1, 1, 0, 1, 0, 0, 1, 1] []).2, ⟨[.si .u64 a1, .und, .und, .all 0 a0.length, .si .i64 a2, .und, .und, .und, .und, .und, .und, .und, .und, .und, .und, .und, .und, .und], [.row 3 a0 none]⟩, true⟩
theorem blk_r12_List : ∀ p, Le.runT (EV Tryz.prog gl 202 mods_r12_List noH) (mdlOf mods_r12_List noH) A_r12_List 202 Tryz.f202 0 (doneP (EV Tryz.prog gl 202 mods_r12_List noH) Tryz.f202) 1000 (.run (sp_r12_List p).c) (sp_r12_List p).K (sp_r12_List p).st (sp_r12_List p).sk = (T_r12_List p).map (leafOf (outP (U := U) 226) sp_r12_List)
  | .b0 a0 => by kernel_rfl
  | .b1 a0 a1 a2 => by kernel_rfl
  | .b2 a0 a1 a2 => by kernel_rfl
theorem ok_r12_List : FnOK Tryz.prog B0 202 M_r12_List := by
  refine fn_flow rfl (univ_ok _ rfl) mix_ok (fn := Tryz.f202) (c := c_r12_List) (mods := mods_r12_List) (hmods := noH) ?_ (fun g k m h => by cases h) Tryz.func202 (by kernel_rfl) (by kernel_rfl) (by kernel_rfl) M_r12_List T_r12_List sp_r12_List blk_r12_List (fun x => .b0 x.1) (fun x => rfl) (fun x => rfl)
  intro g m h
  unfold mods_r12_List at h
  split at h <;> cases h
  · exact ok_r12_Has

/-! wireless/wirelessref12.Count -/
inductive P_r12_Count where
  | b0 (a0 : Int)
noncomputable def T_r12_Count : P_r12_Count → Tr U (Int ⊕ P_r12_Count)
  | .b0 a0 => .bind 226 (m_r12_List a0) (fun (x1 : List Int) => 
    .leaf (.inl (↑x1.length : Int)))
noncomputable def m_r12_Count (a0 : Int) : Option Int := flow T_r12_Count (.b0 a0)
noncomputable def M_r12_Count : Mod U := { ts := [26], rt := 3, fn := fun x => m_r12_Count x.1, ok := by decide }
noncomputable def A_r12_Count : Nat → Option (List Nat)
  | _ => none
noncomputable def mods_r12_Count : FuncId → Option (Mod U)
  | 202 => some M_r12_List
  | _ => none
noncomputable def c_r12_Count : Code := bodyOf Tryz.f221
noncomputable def sp_r12_Count : P_r12_Count → Spot U
  | .b0 a0 => ⟨c_r12_Count, [], entryS [26] (a0, ()) 6, false⟩
theorem blk_r12_Count : ∀ p, Le.runT (EV Tryz.prog gl 221 mods_r12_Count noH) (mdlOf mods_r12_Count noH) A_r12_Count 221 Tryz.f221 0 (doneP (EV Tryz.prog gl 221 mods_r12_Count noH) Tryz.f221) 1000 (.run (sp_r12_Count p).c) (sp_r12_Count p).K (sp_r12_Count p).st (sp_r12_Count p).sk = (T_r12_Count p).map (leafOf (outP (U := U) 3) sp_r12_Count)
  | .b0 a0 => by kernel_rfl
theorem ok_r12_Count : FnOK Tryz.prog B0 221 M_r12_Count := by
  refine fn_flow rfl (univ_ok _ rfl) mix_ok (fn := Tryz.f221) (c := c_r12_Count) (mods := mods_r12_Count) (hmods := noH) ?_ (fun g k m h => by cases h) Tryz.func221 (by kernel_rfl) (by kernel_rfl) (by kernel_rfl) M_r12_Count T_r12_Count sp_r12_Count blk_r12_Count (fun x => .b0 x.1) (fun x => rfl) (fun x => rfl)
  intro g m h
  unfold mods_r12_Count at h
  split at h <;> cases h
  · exact ok_r12_List

/-! wireless/wirelessref12.Check -/
inductive P_r12_Check where
  | b0 (a0 : Int)
noncomputable def T_r12_Check : P_r12_Check → Tr U (Int ⊕ P_r12_Check)
  | .b0 a0 => .bind 25 (m_r01_Power (37 : Int)) (fun (x1 : Int) => 
    .br (decide (a0 ≥ x1)) (
      .leaf (.inl (5 : Int))) (
      .bind 3 (m_r12_Count a0) (fun (x2 : Int) => 
        .br (decide (x2 < (2 : Int))) (
          .leaf (.inl (1 : Int))) (
          .leaf (.inl (0 : Int))))))
noncomputable def m_r12_Check (a0 : Int) : Option Int := flow T_r12_Check (.b0 a0)
noncomputable def M_r12_Check : Mod U := { ts := [26], rt := 45, fn := fun x => m_r12_Check x.1, ok := by decide }
noncomputable def A_r12_Check : Nat → Option (List Nat)
  | _ => none
noncomputable def mods_r12_Check : FuncId → Option (Mod U)
  | 220 => some M_r01_Power
  | 221 => some M_r12_Count
  | _ => none
noncomputable def c_r12_Check : Code := bodyOf Tryz.f128
noncomputable def sp_r12_Check : P_r12_Check → Spot U
  | .b0 a0 => ⟨c_r12_Check, [], entryS [26] (a0, ()) 9, false⟩
theorem blk_r12_Check : ∀ p, Le.runT (EV Tryz.prog gl 128 mods_r12_Check noH) (mdlOf mods_r12_Check noH) A_r12_Check 128 Tryz.f128 0 (doneP (EV Tryz.prog gl 128 mods_r12_Check noH) Tryz.f128) 1000 (.run (sp_r12_Check p).c) (sp_r12_Check p).K (sp_r12_Check p).st (sp_r12_Check p).sk = (T_r12_Check p).map (leafOf (outP (U := U) 45) sp_r12_Check)
  | .b0 a0 => by kernel_rfl
theorem ok_r12_Check : FnOK Tryz.prog B0 128 M_r12_Check := by
  refine fn_flow rfl (univ_ok _ rfl) mix_ok (fn := Tryz.f128) (c := c_r12_Check) (mods := mods_r12_Check) (hmods := noH) ?_ (fun g k m h => by cases h) Tryz.func128 (by kernel_rfl) (by kernel_rfl) (by kernel_rfl) M_r12_Check T_r12_Check sp_r12_Check blk_r12_Check (fun x => .b0 x.1) (fun x => rfl) (fun x => rfl)
  intro g m h
  unfold mods_r12_Check at h
  split at h <;> cases h
  · exact ok_r01_Power
  · exact ok_r12_Count

/-! wireless/wirelessref17.Check -/
inductive P_r17_Check where
  | b0 (a0 : api_ConnParams)
  | b1 (a0 : api_ConnParams)
  | b2 (a0 : api_ConnParams)
noncomputable def T_r17_Check : P_r17_Check → Tr U (Int ⊕ P_r17_Check)
  | .b0 a0 => .br (a0.Access == (0 : Int)) (
    .leaf (.inl (1 : Int))) (
    .br (a0.Access == (2391391958 : Int)) (
      .leaf (.inl (1 : Int))) (
      .leaf (.inr (.b1 a0))))
  | .b1 a0 => .br (decide (a0.Init ≥ (16777216 : Int))) (
    .leaf (.inl (5 : Int))) (
    .bind 45 (m_r17_CheckUpdate a0.Update) (fun (x1 : Int) => 
      .br (x1 != (0 : Int)) (
        .leaf (.inl x1)) (
        .bind 45 (m_r12_Check a0.Map) (fun (x2 : Int) => 
          .br (x2 != (0 : Int)) (
            .leaf (.inl x2)) (
            .bind 4 (m_r17_within a0.Hop (5 : Int) (16 : Int)) (fun (x3 : Bool) => 
              .br (!x3) (
                .leaf (.inl (5 : Int))) (
                .bind 4 (m_r17_within a0.PPM (0 : Int) (500 : Int)) (fun (x4 : Bool) => 
                  .br (!x4) (
                    .leaf (.inl (5 : Int))) (
                    .leaf (.inr (.b2 a0)))))))))))
  | .b2 a0 => .br (a0.Algorithm != (1 : Int)) (
    .br (a0.Algorithm != (2 : Int)) (
      .leaf (.inl (12 : Int))) (
      .leaf (.inl (0 : Int)))) (
    .leaf (.inl (0 : Int)))
noncomputable def m_r17_Check (a0 : api_ConnParams) : Option Int := flow T_r17_Check (.b0 a0)
noncomputable def M_r17_Check : Mod U := { ts := [28], rt := 45, fn := fun x => m_r17_Check x.1, ok := by decide }
noncomputable def A_r17_Check : Nat → Option (List Nat)
  | 3 => some [1]
  | 13 => some [1]
  | _ => none
noncomputable def mods_r17_Check : FuncId → Option (Mod U)
  | 127 => some M_r17_CheckUpdate
  | 128 => some M_r12_Check
  | 129 => some M_r17_within
  | _ => none
noncomputable def c_r17_Check : Code := bodyOf Tryz.f43
noncomputable def sp_r17_Check : P_r17_Check → Spot U
  | .b0 a0 => ⟨c_r17_Check, [], entryS [28] (a0, ()) 46, false⟩
  | .b1 a0 => ⟨(nav c_r17_Check [1, 1, 0, 0] []).1, (nav c_r17_Check [1, 1, 0, 0] []).2, ⟨[.und, .ptr 0 0 0 1, .und, .und, .und, .und, .und, .und, .und, .und, .und, .und, .und, .und, .und, .und, .und, .und, .und, .und, .und, .und, .und, .und, .und, .und, .und, .und, .und, .und, .und, .und, .und, .und, .und, .und, .und, .und, .und, .und, .und, .und, .und, .und, .und, .und], [.var 28 11 (U.encS 28 a0)]⟩, true⟩
  | .b2 a0 => ⟨(nav c_r17_Check [1, 1, 1, 1, 1, 1, 0, 0] []).1, (nav c_r17_Check [1, 1, 1, 1, 1, 1, 0, 0] []).2, ⟨[.und, .ptr 0 0 0 1, .und, .und, .und, .und, .und, .und, .und, .und, .und, .und, .und, .und, .und, .und, .und, .und, .und, .und, .und, .und, .und, .und, .und, .und, .und, .und, .und, .und, .und, .und, .und, .und, .und, .und, .und, .und, .und, .und, .und, .und, .und, .und, .und, .und], [.var 28 11 (U.encS 28 a0)]⟩, true⟩
theorem blk_r17_Check : ∀ p, Le.runT (EV Tryz.prog gl 43 mods_r17_Check noH) (mdlOf mods_r17_Check noH) A_r17_Check 43 Tryz.f43 0 (doneP (EV Tryz.prog gl 43 mods_r17_Check noH) Tryz.f43) 1000 (.run (sp_r17_Check p).c) (sp_r17_Check p).K (sp_r17_Check p).st (sp_r17_Check p).sk = (T_r17_Check p).map (leafOf (outP (U := U) 45) sp_r17_Check)
  | .b0 a0 => by kernel_rfl
  | .b1 a0 => by kernel_rfl
  | .b2 a0 => by kernel_rfl
theorem ok_r17_Check : FnOK Tryz.prog B0 43 M_r17_Check := by
  refine fn_flow rfl (univ_ok _ rfl) mix_ok (fn := Tryz.f43) (c := c_r17_Check) (mods := mods_r17_Check) (hmods := noH) ?_ (fun g k m h => by cases h) Tryz.func43 (by kernel_rfl) (by kernel_rfl) (by kernel_rfl) M_r17_Check T_r17_Check sp_r17_Check blk_r17_Check (fun x => .b0 x.1) (fun x => rfl) (fun x => rfl)
  intro g m h
  unfold mods_r17_Check at h
  split at h <;> cases h
  · exact ok_r17_CheckUpdate
  · exact ok_r12_Check
  · exact ok_r17_within

/-! wireless/wirelessref17.limited -/
inductive P_r17_limited where
  | b0 (a0 : Int) (a1 : Int) (a2 : Int)
noncomputable def T_r17_limited : P_r17_limited → Tr U (Int ⊕ P_r17_limited)
  | .b0 a0 a1 a2 => .leaf (.inl (if (if a2 < a0 then a2 else a0) > a1 then (if a2 < a0 then a2 else a0) else a1))
noncomputable def m_r17_limited (a0 : Int) (a1 : Int) (a2 : Int) : Option Int := flow T_r17_limited (.b0 a0 a1 a2)
noncomputable def M_r17_limited : Mod U := { ts := [3, 3, 3], rt := 3, fn := fun x => m_r17_limited x.1 x.2.1 x.2.2.1, ok := by decide }
noncomputable def A_r17_limited : Nat → Option (List Nat)
  | _ => none
noncomputable def mods_r17_limited : FuncId → Option (Mod U)
  | _ => none
noncomputable def c_r17_limited : Code := bodyOf Tryz.f192
noncomputable def sp_r17_limited : P_r17_limited → Spot U
  | .b0 a0 a1 a2 => ⟨c_r17_limited, [], entryS [3, 3, 3] (a0, a1, a2, ()) 12, false⟩
theorem blk_r17_limited : ∀ p, Le.runT (EV Tryz.prog gl 192 mods_r17_limited noH) (mdlOf mods_r17_limited noH) A_r17_limited 192 Tryz.f192 0 (doneP (EV Tryz.prog gl 192 mods_r17_limited noH) Tryz.f192) 1000 (.run (sp_r17_limited p).c) (sp_r17_limited p).K (sp_r17_limited p).st (sp_r17_limited p).sk = (T_r17_limited p).map (leafOf (outP (U := U) 3) sp_r17_limited)
  | .b0 a0 a1 a2 => by kernel_rfl
theorem ok_r17_limited : FnOK Tryz.prog B0 192 M_r17_limited := by
  refine fn_flow rfl (univ_ok _ rfl) mix_ok (fn := Tryz.f192) (c := c_r17_limited) (mods := mods_r17_limited) (hmods := noH) ?_ (fun g k m h => by cases h) Tryz.func192 (by kernel_rfl) (by kernel_rfl) (by kernel_rfl) M_r17_limited T_r17_limited sp_r17_limited blk_r17_limited (fun x => .b0 x.1 x.2.1 x.2.2.1) (fun x => rfl) (fun x => rfl)
  intro g m h
  cases h

/-! wireless/wirelessref17.place -/
inductive P_r17_place where
  | b0 (a0 : Int)
noncomputable def T_r17_place : P_r17_place → Tr U (Int ⊕ P_r17_place)
  | .b0 a0 => .bind 3 (m_r17_limited a0 (0 : Int) (4398046511104 : Int)) (fun (x1 : Int) => 
    .leaf (.inl x1))
noncomputable def m_r17_place (a0 : Int) : Option Int := flow T_r17_place (.b0 a0)
noncomputable def M_r17_place : Mod U := { ts := [3], rt := 3, fn := fun x => m_r17_place x.1, ok := by decide }
noncomputable def A_r17_place : Nat → Option (List Nat)
  | _ => none
noncomputable def mods_r17_place : FuncId → Option (Mod U)
  | 192 => some M_r17_limited
  | _ => none
noncomputable def c_r17_place : Code := bodyOf Tryz.f130
noncomputable def sp_r17_place : P_r17_place → Spot U
  | .b0 a0 => ⟨c_r17_place, [], entryS [3] (a0, ()) 5, false⟩
theorem blk_r17_place : ∀ p, Le.runT (EV Tryz.prog gl 130 mods_r17_place noH) (mdlOf mods_r17_place noH) A_r17_place 130 Tryz.f130 0 (doneP (EV Tryz.prog gl 130 mods_r17_place noH) Tryz.f130) 1000 (.run (sp_r17_place p).c) (sp_r17_place p).K (sp_r17_place p).st (sp_r17_place p).sk = (T_r17_place p).map (leafOf (outP (U := U) 3) sp_r17_place)
  | .b0 a0 => by kernel_rfl
theorem ok_r17_place : FnOK Tryz.prog B0 130 M_r17_place := by
  refine fn_flow rfl (univ_ok _ rfl) mix_ok (fn := Tryz.f130) (c := c_r17_place) (mods := mods_r17_place) (hmods := noH) ?_ (fun g k m h => by cases h) Tryz.func130 (by kernel_rfl) (by kernel_rfl) (by kernel_rfl) M_r17_place T_r17_place sp_r17_place blk_r17_place (fun x => .b0 x.1) (fun x => rfl) (fun x => rfl)
  intro g m h
  unfold mods_r17_place at h
  split at h <;> cases h
  · exact ok_r17_limited

/-! wireless/wirelessref17.offset -/
inductive P_r17_offset where
  | b0 (a0 : api_Update)
noncomputable def T_r17_offset : P_r17_offset → Tr U (Int ⊕ P_r17_offset)
  | .b0 a0 => .bind 3 (m_r17_limited a0.WinOffset (0 : Int) (3200 : Int)) (fun (x1 : Int) => 
    .leaf (.inl (w64 (x1 * (1250 : Int)))))
noncomputable def m_r17_offset (a0 : api_Update) : Option Int := flow T_r17_offset (.b0 a0)
noncomputable def M_r17_offset : Mod U := { ts := [24], rt := 3, fn := fun x => m_r17_offset x.1, ok := by decide }
noncomputable def A_r17_offset : Nat → Option (List Nat)
  | _ => none
noncomputable def mods_r17_offset : FuncId → Option (Mod U)
  | 192 => some M_r17_limited
  | _ => none
noncomputable def c_r17_offset : Code := bodyOf Tryz.f131
noncomputable def sp_r17_offset : P_r17_offset → Spot U
  | .b0 a0 => ⟨c_r17_offset, [], entryS [24] (a0, ()) 7, false⟩
theorem blk_r17_offset : ∀ p, Le.runT (EV Tryz.prog gl 131 mods_r17_offset noH) (mdlOf mods_r17_offset noH) A_r17_offset 131 Tryz.f131 0 (doneP (EV Tryz.prog gl 131 mods_r17_offset noH) Tryz.f131) 1000 (.run (sp_r17_offset p).c) (sp_r17_offset p).K (sp_r17_offset p).st (sp_r17_offset p).sk = (T_r17_offset p).map (leafOf (outP (U := U) 3) sp_r17_offset)
  | .b0 a0 => by kernel_rfl
theorem ok_r17_offset : FnOK Tryz.prog B0 131 M_r17_offset := by
  refine fn_flow rfl (univ_ok _ rfl) mix_ok (fn := Tryz.f131) (c := c_r17_offset) (mods := mods_r17_offset) (hmods := noH) ?_ (fun g k m h => by cases h) Tryz.func131 (by kernel_rfl) (by kernel_rfl) (by kernel_rfl) M_r17_offset T_r17_offset sp_r17_offset blk_r17_offset (fun x => .b0 x.1) (fun x => rfl) (fun x => rfl)
  intro g m h
  unfold mods_r17_offset at h
  split at h <;> cases h
  · exact ok_r17_limited

/-! wireless/wirelessref17.size -/
inductive P_r17_size where
  | b0 (a0 : api_Update)
noncomputable def T_r17_size : P_r17_size → Tr U (Int ⊕ P_r17_size)
  | .b0 a0 => .bind 3 (m_r17_limited a0.WinSize (1 : Int) (8 : Int)) (fun (x1 : Int) => 
    .leaf (.inl (w64 (x1 * (1250 : Int)))))
noncomputable def m_r17_size (a0 : api_Update) : Option Int := flow T_r17_size (.b0 a0)
noncomputable def M_r17_size : Mod U := { ts := [24], rt := 3, fn := fun x => m_r17_size x.1, ok := by decide }
noncomputable def A_r17_size : Nat → Option (List Nat)
  | _ => none
noncomputable def mods_r17_size : FuncId → Option (Mod U)
  | 192 => some M_r17_limited
  | _ => none
noncomputable def c_r17_size : Code := bodyOf Tryz.f132
noncomputable def sp_r17_size : P_r17_size → Spot U
  | .b0 a0 => ⟨c_r17_size, [], entryS [24] (a0, ()) 7, false⟩
theorem blk_r17_size : ∀ p, Le.runT (EV Tryz.prog gl 132 mods_r17_size noH) (mdlOf mods_r17_size noH) A_r17_size 132 Tryz.f132 0 (doneP (EV Tryz.prog gl 132 mods_r17_size noH) Tryz.f132) 1000 (.run (sp_r17_size p).c) (sp_r17_size p).K (sp_r17_size p).st (sp_r17_size p).sk = (T_r17_size p).map (leafOf (outP (U := U) 3) sp_r17_size)
  | .b0 a0 => by kernel_rfl
theorem ok_r17_size : FnOK Tryz.prog B0 132 M_r17_size := by
  refine fn_flow rfl (univ_ok _ rfl) mix_ok (fn := Tryz.f132) (c := c_r17_size) (mods := mods_r17_size) (hmods := noH) ?_ (fun g k m h => by cases h) Tryz.func132 (by kernel_rfl) (by kernel_rfl) (by kernel_rfl) M_r17_size T_r17_size sp_r17_size blk_r17_size (fun x => .b0 x.1) (fun x => rfl) (fun x => rfl)
  intro g m h
  unfold mods_r17_size at h
  split at h <;> cases h
  · exact ok_r17_limited

/-! wireless/wirelessref17.First -/
inductive P_r17_First where
  | b0 (a0 : Int) (a1 : api_Update)
noncomputable def T_r17_First : P_r17_First → Tr U (api_Window ⊕ P_r17_First)
  | .b0 a0 a1 => .bind 3 (m_r17_place a0) (fun (x1 : Int) => 
    .bind 3 (m_r17_offset a1) (fun (x2 : Int) => 
      .bind 3 (m_r17_size a1) (fun (x3 : Int) => 
        .leaf (.inl (⟨(w64 ((w64 (x1 + (1250 : Int))) + x2)), (w64 ((w64 ((w64 (x1 + (1250 : Int))) + x2)) + x3))⟩ : api_Window)))))
noncomputable def m_r17_First (a0 : Int) (a1 : api_Update) : Option api_Window := flow T_r17_First (.b0 a0 a1)
noncomputable def M_r17_First : Mod U := { ts := [3, 24], rt := 52, fn := fun x => m_r17_First x.1 x.2.1, ok := by decide }
noncomputable def A_r17_First : Nat → Option (List Nat)
  | _ => none
noncomputable def mods_r17_First : FuncId → Option (Mod U)
  | 130 => some M_r17_place
  | 131 => some M_r17_offset
  | 132 => some M_r17_size
  | _ => none
noncomputable def c_r17_First : Code := bodyOf Tryz.f44
noncomputable def sp_r17_First : P_r17_First → Spot U
  | .b0 a0 a1 => ⟨c_r17_First, [], entryS [3, 24] (a0, a1, ()) 18, false⟩
theorem blk_r17_First : ∀ p, Le.runT (EV Tryz.prog gl 44 mods_r17_First noH) (mdlOf mods_r17_First noH) A_r17_First 44 Tryz.f44 0 (doneP (EV Tryz.prog gl 44 mods_r17_First noH) Tryz.f44) 1000 (.run (sp_r17_First p).c) (sp_r17_First p).K (sp_r17_First p).st (sp_r17_First p).sk = (T_r17_First p).map (leafOf (outP (U := U) 52) sp_r17_First)
  | .b0 a0 a1 => by kernel_rfl
theorem ok_r17_First : FnOK Tryz.prog B0 44 M_r17_First := by
  refine fn_flow rfl (univ_ok _ rfl) mix_ok (fn := Tryz.f44) (c := c_r17_First) (mods := mods_r17_First) (hmods := noH) ?_ (fun g k m h => by cases h) Tryz.func44 (by kernel_rfl) (by kernel_rfl) (by kernel_rfl) M_r17_First T_r17_First sp_r17_First blk_r17_First (fun x => .b0 x.1 x.2.1) (fun x => rfl) (fun x => rfl)
  intro g m h
  unfold mods_r17_First at h
  split at h <;> cases h
  · exact ok_r17_place
  · exact ok_r17_offset
  · exact ok_r17_size

/-! wireless/wirelessref24.New -/
inductive P_r24_New where
  | b0 
noncomputable def T_r24_New : P_r24_New → Tr U (api_Arq ⊕ P_r24_New)
  | .b0  => .leaf (.inl z_api_Arq)
noncomputable def m_r24_New  : Option api_Arq := flow T_r24_New (.b0)
noncomputable def M_r24_New : Mod U := { ts := [], rt := 33, fn := fun x => m_r24_New, ok := by decide }
noncomputable def A_r24_New : Nat → Option (List Nat)
  | _ => none
noncomputable def mods_r24_New : FuncId → Option (Mod U)
  | _ => none
noncomputable def c_r24_New : Code := bodyOf Tryz.f45
noncomputable def sp_r24_New : P_r24_New → Spot U
  | .b0  => ⟨c_r24_New, [], entryS [] () 2, false⟩
theorem blk_r24_New : ∀ p, Le.runT (EV Tryz.prog gl 45 mods_r24_New noH) (mdlOf mods_r24_New noH) A_r24_New 45 Tryz.f45 0 (doneP (EV Tryz.prog gl 45 mods_r24_New noH) Tryz.f45) 1000 (.run (sp_r24_New p).c) (sp_r24_New p).K (sp_r24_New p).st (sp_r24_New p).sk = (T_r24_New p).map (leafOf (outP (U := U) 33) sp_r24_New)
  | .b0  => by kernel_rfl
theorem ok_r24_New : FnOK Tryz.prog B0 45 M_r24_New := by
  refine fn_flow rfl (univ_ok _ rfl) mix_ok (fn := Tryz.f45) (c := c_r24_New) (mods := mods_r24_New) (hmods := noH) ?_ (fun g k m h => by cases h) Tryz.func45 (by kernel_rfl) (by kernel_rfl) (by kernel_rfl) M_r24_New T_r24_New sp_r24_New blk_r24_New (fun x => .b0) (fun x => rfl) (fun x => rfl)
  intro g m h
  cases h

/-! wireless/wirelessref25.New -/
inductive P_r25_New where
  | b0 (a0 : Int)
noncomputable def T_r25_New : P_r25_New → Tr U (api_Listening ⊕ P_r25_New)
  | .b0 a0 => .leaf (.inl (⟨(if (if (499 : Int) < a0 then (499 : Int) else a0) > (0 : Int) then (if (499 : Int) < a0 then (499 : Int) else a0) else (0 : Int)), (0 : Int), true⟩ : api_Listening))
noncomputable def m_r25_New (a0 : Int) : Option api_Listening := flow T_r25_New (.b0 a0)
noncomputable def M_r25_New : Mod U := { ts := [3], rt := 35, fn := fun x => m_r25_New x.1, ok := by decide }
noncomputable def A_r25_New : Nat → Option (List Nat)
  | _ => none
noncomputable def mods_r25_New : FuncId → Option (Mod U)
  | _ => none
noncomputable def c_r25_New : Code := bodyOf Tryz.f46
noncomputable def sp_r25_New : P_r25_New → Spot U
  | .b0 a0 => ⟨c_r25_New, [], entryS [3] (a0, ()) 7, false⟩
theorem blk_r25_New : ∀ p, Le.runT (EV Tryz.prog gl 46 mods_r25_New noH) (mdlOf mods_r25_New noH) A_r25_New 46 Tryz.f46 0 (doneP (EV Tryz.prog gl 46 mods_r25_New noH) Tryz.f46) 1000 (.run (sp_r25_New p).c) (sp_r25_New p).K (sp_r25_New p).st (sp_r25_New p).sk = (T_r25_New p).map (leafOf (outP (U := U) 35) sp_r25_New)
  | .b0 a0 => by kernel_rfl
theorem ok_r25_New : FnOK Tryz.prog B0 46 M_r25_New := by
  refine fn_flow rfl (univ_ok _ rfl) mix_ok (fn := Tryz.f46) (c := c_r25_New) (mods := mods_r25_New) (hmods := noH) ?_ (fun g k m h => by cases h) Tryz.func46 (by kernel_rfl) (by kernel_rfl) (by kernel_rfl) M_r25_New T_r25_New sp_r25_New blk_r25_New (fun x => .b0 x.1) (fun x => rfl) (fun x => rfl)
  intro g m h
  cases h

/-! wireless/wirelessref28.New -/
inductive P_r28_New where
  | b0 (a0 : Int) (a1 : Int) (a2 : Int)
noncomputable def T_r28_New : P_r28_New → Tr U (api_Procs ⊕ P_r28_New)
  | .b0 a0 a1 a2 => .br (a0 == (1 : Int)) (
    .leaf (.inl (⟨(1 : Int), (-1 : Int), (0 : Int), [], (-1 : Int), (0 : Int), [], false, a1, (0 : Int), false, false, (-1 : Int), (27 : Int), (if (251 : Int) < (if (27 : Int) > a2 then (27 : Int) else a2) then (251 : Int) else (if (27 : Int) > a2 then (27 : Int) else a2)), (0 : Int), (0 : Int), (0 : Int), (0 : Int), (0 : Int)⟩ : api_Procs))) (
    .leaf (.inl (⟨(0 : Int), (-1 : Int), (0 : Int), [], (-1 : Int), (0 : Int), [], false, a1, (0 : Int), false, false, (-1 : Int), (27 : Int), (if (251 : Int) < (if (27 : Int) > a2 then (27 : Int) else a2) then (251 : Int) else (if (27 : Int) > a2 then (27 : Int) else a2)), (0 : Int), (0 : Int), (0 : Int), (0 : Int), (0 : Int)⟩ : api_Procs)))
noncomputable def m_r28_New (a0 : Int) (a1 : Int) (a2 : Int) : Option api_Procs := flow T_r28_New (.b0 a0 a1 a2)
noncomputable def M_r28_New : Mod U := { ts := [3, 25, 3], rt := 39, fn := fun x => m_r28_New x.1 x.2.1 x.2.2.1, ok := by decide }
noncomputable def A_r28_New : Nat → Option (List Nat)
  | _ => none
noncomputable def mods_r28_New : FuncId → Option (Mod U)
  | _ => none
noncomputable def c_r28_New : Code := bodyOf Tryz.f47
noncomputable def sp_r28_New : P_r28_New → Spot U
  | .b0 a0 a1 a2 => ⟨c_r28_New, [], entryS [3, 25, 3] (a0, a1, a2, ()) 17, false⟩
theorem blk_r28_New : ∀ p, Le.runT (EV Tryz.prog gl 47 mods_r28_New noH) (mdlOf mods_r28_New noH) A_r28_New 47 Tryz.f47 0 (doneP (EV Tryz.prog gl 47 mods_r28_New noH) Tryz.f47) 1000 (.run (sp_r28_New p).c) (sp_r28_New p).K (sp_r28_New p).st (sp_r28_New p).sk = (T_r28_New p).map (leafOf (outP (U := U) 39) sp_r28_New)
  | .b0 a0 a1 a2 => by kernel_rfl
theorem ok_r28_New : FnOK Tryz.prog B0 47 M_r28_New := by
  refine fn_flow rfl (univ_ok _ rfl) mix_ok (fn := Tryz.f47) (c := c_r28_New) (mods := mods_r28_New) (hmods := noH) ?_ (fun g k m h => by cases h) Tryz.func47 (by kernel_rfl) (by kernel_rfl) (by kernel_rfl) M_r28_New T_r28_New sp_r28_New blk_r28_New (fun x => .b0 x.1 x.2.1 x.2.2.1) (fun x => rfl) (fun x => rfl)
  intro g m h
  cases h

/-! wireless/wirelessref14.Fresh -/
inductive P_r14_Fresh where
  | b0 
noncomputable def T_r14_Fresh : P_r14_Fresh → Tr U ((List api_Tally) ⊕ P_r14_Fresh)
  | .b0  => .chk (decide (0 ≤ (37 : Int) ∧ (37 : Int) ≤ (37 : Int) ∧ Int.toNat (37 : Int) * 16 ≤ lim ∧ (37 : Int) ≤ (↑maxLen : Int))) (
    .chk ((List.replicate (Int.toNat (37 : Int)) (⟨(0 : Int), (0 : Int)⟩ : api_Tally)).length == (List.replicate (Int.toNat (37 : Int)) (⟨(0 : Int), (0 : Int)⟩ : api_Tally)).length) (
      .leaf (.inl (List.replicate (Int.toNat (37 : Int)) (⟨(0 : Int), (0 : Int)⟩ : api_Tally)))))
noncomputable def m_r14_Fresh  : Option (List api_Tally) := flow T_r14_Fresh (.b0)
noncomputable def M_r14_Fresh : Mod U := { ts := [], rt := 42, fn := fun x => m_r14_Fresh, ok := by decide }
noncomputable def A_r14_Fresh : Nat → Option (List Nat)
  | _ => none
noncomputable def mods_r14_Fresh : FuncId → Option (Mod U)
  | _ => none
noncomputable def c_r14_Fresh : Code := bodyOf Tryz.f48
noncomputable def sp_r14_Fresh : P_r14_Fresh → Spot U
  | .b0  => ⟨c_r14_Fresh, [], entryS [] () 2, false⟩
theorem blk_r14_Fresh : ∀ p, Le.runT (EV Tryz.prog gl 48 mods_r14_Fresh noH) (mdlOf mods_r14_Fresh noH) A_r14_Fresh 48 Tryz.f48 0 (doneP (EV Tryz.prog gl 48 mods_r14_Fresh noH) Tryz.f48) 1000 (.run (sp_r14_Fresh p).c) (sp_r14_Fresh p).K (sp_r14_Fresh p).st (sp_r14_Fresh p).sk = (T_r14_Fresh p).map (leafOf (outP (U := U) 42) sp_r14_Fresh)
  | .b0  => by kernel_rfl
theorem ok_r14_Fresh : FnOK Tryz.prog B0 48 M_r14_Fresh := by
  refine fn_flow rfl (univ_ok _ rfl) mix_ok (fn := Tryz.f48) (c := c_r14_Fresh) (mods := mods_r14_Fresh) (hmods := noH) ?_ (fun g k m h => by cases h) Tryz.func48 (by kernel_rfl) (by kernel_rfl) (by kernel_rfl) M_r14_Fresh T_r14_Fresh sp_r14_Fresh blk_r14_Fresh (fun x => .b0) (fun x => rfl) (fun x => rfl)
  intro g m h
  cases h

/-! wireless/wirelessref30.New -/
inductive P_r30_New where
  | b0 (a0 : Int) (a1 : api_ConnParams) (a2 : Int) (a3 : Int) (a4 : Int) (a5 : Int)
  | b1 (a0 : api_Link)
  | b2 (a0 : Int) (a1 : Int) (a2 : Int) (a3 : Int) (a4 : Int) (a5 : api_ConnParams) (a6 : api_Link)
  | b3 (a0 : api_Link)
  | b4 (a0 : Int) (a1 : Int) (a2 : Int) (a3 : Int) (a4 : Int) (a5 : api_ConnParams) (a6 : api_Link)
noncomputable def T_r30_New : P_r30_New → Tr U ((api_Link × Int) ⊕ P_r30_New)
  | .b0 a0 a1 a2 a3 a4 a5 => .br (a0 != (0 : Int)) (
    .br (a0 != (1 : Int)) (
      .leaf (.inr (.b1 z_api_Link))) (
      .leaf (.inr (.b2 a0 a2 a3 a4 a5 a1 z_api_Link)))) (
    .leaf (.inr (.b2 a0 a2 a3 a4 a5 a1 z_api_Link)))
  | .b1 a0 => .leaf (.inl (z_api_Link, (1 : Int)))
  | .b2 a0 a1 a2 a3 a4 a5 a6 => .bind 45 (m_r17_Check a5) (fun (x1 : Int) => 
    .br (x1 != (0 : Int)) (
      .leaf (.inl (z_api_Link, x1))) (
      .br (decide (a1 < (0 : Int))) (
        .leaf (.inr (.b3 a6))) (
        .br (decide (a1 > (500 : Int))) (
          .leaf (.inr (.b3 a6))) (
          .br (decide (a4 < (0 : Int))) (
            .leaf (.inr (.b3 a6))) (
            .br (decide (a4 > (1099511627776 : Int))) (
              .leaf (.inr (.b3 a6))) (
              .leaf (.inr (.b4 a0 a1 a2 a3 a4 a5 a6))))))))
  | .b3 a0 => .leaf (.inl (z_api_Link, (5 : Int)))
  | .b4 a0 a1 a2 a3 a4 a5 a6 => .bind 52 (m_r17_First a4 a5.Update) (fun (x1 : api_Window) => 
    .bind 33 (m_r24_New) (fun (x2 : api_Arq) => 
      .bind 35 (m_r25_New a5.Update.Latency) (fun (x3 : api_Listening) => 
        .bind 39 (m_r28_New a0 (63 : Int) (251 : Int)) (fun (x4 : api_Procs) => 
          .bind 42 (m_r14_Fresh) (fun (x5 : List api_Tally) => 
            .br (a0 == (1 : Int)) (
              .leaf (.inl ((⟨a0, a5, a1, (0 : Int), (0 : Int), x1.Start, (w64 (x1.End - x1.Start)), a4, a4, false, false, false, false, false, x2, x3, x4, z_api_Session, a2, x5, [], (0 : Int), a3⟩ : api_Link), (0 : Int)))) (
              .leaf (.inl ((⟨a0, a5, a1, (0 : Int), (0 : Int), x1.Start, (0 : Int), a4, a4, false, false, false, false, false, x2, x3, x4, z_api_Session, a2, x5, [], (0 : Int), a3⟩ : api_Link), (0 : Int)))))))))
noncomputable def m_r30_New (a0 : Int) (a1 : api_ConnParams) (a2 : Int) (a3 : Int) (a4 : Int) (a5 : Int) : Option (api_Link × Int) := flow T_r30_New (.b0 a0 a1 a2 a3 a4 a5)
noncomputable def M_r30_New : Mod U := { ts := [3, 28, 3, 29, 25, 3], rt := 46, fn := fun x => m_r30_New x.1 x.2.1 x.2.2.1 x.2.2.2.1 x.2.2.2.2.1 x.2.2.2.2.2.1, ok := by decide }
noncomputable def A_r30_New : Nat → Option (List Nat)
  | 2 => some [12]
  | 3 => some [0, 2, 3, 4, 5, 7, 12]
  | 7 => some [12]
  | 8 => some [0, 2, 3, 4, 5, 7, 12]
  | _ => none
noncomputable def mods_r30_New : FuncId → Option (Mod U)
  | 43 => some M_r17_Check
  | 44 => some M_r17_First
  | 45 => some M_r24_New
  | 46 => some M_r25_New
  | 47 => some M_r28_New
  | 48 => some M_r14_Fresh
  | _ => none
noncomputable def c_r30_New : Code := bodyOf Tryz.f12
noncomputable def sp_r30_New : P_r30_New → Spot U
  | .b0 a0 a1 a2 a3 a4 a5 => ⟨c_r30_New, [], entryS [3, 28, 3, 29, 25, 3] (a0, a1, a2, a3, a4, a5, ()) 76, false⟩
  | .b1 a0 => ⟨(nav c_r30_New [1, 0, 1, 0, 0] []).1, (nav c_r30_New [1, 0, 1, 0, 0] []).2, ⟨[.und, .und, .und, .und, .und, .und, .und, .und, .und, .und, .und, .und, .ptr 0 0 0 1, .und, .und, .und, .und, .und, .und, .und, .und, .und, .und, .und, .und, .und, .und, .und, .und, .und, .und, .und, .und, .und, .und, .und, .und, .und, .und, .und, .und, .und, .und, .und, .und, .und, .und, .und, .und, .und, .und, .und, .und, .und, .und, .und, .und, .und, .und, .und, .und, .und, .und, .und, .und, .und, .und, .und, .und, .und, .und, .und, .und, .und, .und, .und], [.var 44 66 (.agg [.si .i64 a0.Role, .si .u32 a0.Params.Access, .si .u32 a0.Params.Init, .si .i64 a0.Params.Update.WinSize, .si .i64 a0.Params.Update.WinOffset, .si .i64 a0.Params.Update.Interval, .si .i64 a0.Params.Update.Latency, .si .i64 a0.Params.Update.Timeout, .si .u64 a0.Params.Map, .si .i64 a0.Params.Hop, .si .i64 a0.Params.PPM, .si .i64 a0.Params.Algorithm, .si .i64 a0.Clock, .si .u16 a0.Event, .si .i64 a0.Last, .si .i64 a0.Anchor, .si .i64 a0.Size, .si .i64 a0.Sync, .si .i64 a0.Heard, .sb a0.Begun, .sb a0.Got, .sb a0.Good, .sb a0.Acked, .sb a0.More, .si .i64 a0.Arq.SN, .si .i64 a0.Arq.NESN, .nil 0, .sb a0.Arq.Open, .sb a0.Arq.Empty, .si .i64 a0.Arq.Acked, .si .i64 a0.Arq.Taken, .si .i64 a0.Listen.Latency, .si .i64 a0.Listen.Skipped, .sb a0.Listen.Full, .si .i64 a0.Procs.Role, .si .i64 a0.Procs.Own, .si .i64 a0.Procs.Since, .nil 0, .si .i64 a0.Procs.Other, .si .i64 a0.Procs.OtherTime, .nil 0, .sb a0.Procs.Told, .si .u64 a0.Procs.Features, .si .u64 a0.Procs.Common, .sb a0.Procs.Known, .sb a0.Procs.VersionTx, .si .i64 a0.Procs.Version, .si .i64 a0.Procs.Length, .si .i64 a0.Procs.Limit, .si .u64 a0.Procs.Salt, .si .u64 a0.Procs.Peer, .si .u64 a0.Procs.Mark, .si .i64 a0.Procs.Crypt, .si .i64 a0.Procs.Ended, .si .i64 a0.Session.Role, .si .u64 a0.Session.Key, .si .u64 a0.Session.Salt, .sb a0.Session.TxOn, .sb a0.Session.RxOn, .si .u64 a0.Session.Tx, .si .u64 a0.Session.Rx, .si .u64 a0.Key, .nil 0, .nil 0, .si .i64 a0.Reason, .si .u64 a0.Seed])]⟩, true⟩
  | .b2 a0 a1 a2 a3 a4 a5 a6 => ⟨(nav c_r30_New [1, 1, 0] []).1, (nav c_r30_New [1, 1, 0] []).2, ⟨[.si .i64 a0, .und, .si .i64 a1, .si .u64 a2, .si .u64 a3, .si .i64 a4, .und, .ptr 0 0 0 1, .und, .und, .und, .und, .ptr 1 0 0 1, .und, .und, .und, .und, .und, .und, .und, .und, .und, .und, .und, .und, .und, .und, .und, .und, .und, .und, .und, .und, .und, .und, .und, .und, .und, .und, .und, .und, .und, .und, .und, .und, .und, .und, .und, .und, .und, .und, .und, .und, .und, .und, .und, .und, .und, .und, .und, .und, .und, .und, .und, .und, .und, .und, .und, .und, .und, .und, .und, .und, .und, .und, .und], [.var 28 11 (U.encS 28 a5), .var 44 66 (.agg [.si .i64 a6.Role, .si .u32 a6.Params.Access, .si .u32 a6.Params.Init, .si .i64 a6.Params.Update.WinSize, .si .i64 a6.Params.Update.WinOffset, .si .i64 a6.Params.Update.Interval, .si .i64 a6.Params.Update.Latency, .si .i64 a6.Params.Update.Timeout, .si .u64 a6.Params.Map, .si .i64 a6.Params.Hop, .si .i64 a6.Params.PPM, .si .i64 a6.Params.Algorithm, .si .i64 a6.Clock, .si .u16 a6.Event, .si .i64 a6.Last, .si .i64 a6.Anchor, .si .i64 a6.Size, .si .i64 a6.Sync, .si .i64 a6.Heard, .sb a6.Begun, .sb a6.Got, .sb a6.Good, .sb a6.Acked, .sb a6.More, .si .i64 a6.Arq.SN, .si .i64 a6.Arq.NESN, .nil 0, .sb a6.Arq.Open, .sb a6.Arq.Empty, .si .i64 a6.Arq.Acked, .si .i64 a6.Arq.Taken, .si .i64 a6.Listen.Latency, .si .i64 a6.Listen.Skipped, .sb a6.Listen.Full, .si .i64 a6.Procs.Role, .si .i64 a6.Procs.Own, .si .i64 a6.Procs.Since, .nil 0, .si .i64 a6.Procs.Other, .si .i64 a6.Procs.OtherTime, .nil 0, .sb a6.Procs.Told, .si .u64 a6.Procs.Features, .si .u64 a6.Procs.Common, .sb a6.Procs.Known, .sb a6.Procs.VersionTx, .si .i64 a6.Procs.Version, .si .i64 a6.Procs.Length, .si .i64 a6.Procs.Limit, .si .u64 a6.Procs.Salt, .si .u64 a6.Procs.Peer, .si .u64 a6.Procs.Mark, .si .i64 a6.Procs.Crypt, .si .i64 a6.Procs.Ended, .si .i64 a6.Session.Role, .si .u64 a6.Session.Key, .si .u64 a6.Session.Salt, .sb a6.Session.TxOn, .sb a6.Session.RxOn, .si .u64 a6.Session.Tx, .si .u64 a6.Session.Rx, .si .u64 a6.Key, .nil 0, .nil 0, .si .i64 a6.Reason, .si .u64 a6.Seed])]⟩, true⟩
  | .b3 a0 => ⟨(nav c_r30_New [1, 1, 1, 1, 0, 1, 0, 0] []).1, (nav c_r30_New [1, 1, 1, 1, 0, 1, 0, 0] []).2, ⟨[.und, .und, .und, .und, .und, .und, .und, .und, .und, .und, .und, .und, .ptr 0 0 0 1, .und, .und, .und, .und, .und, .und, .und, .und, .und, .und, .und, .und, .und, .und, .und, .und, .und, .und, .und, .und, .und, .und, .und, .und, .und, .und, .und, .und, .und, .und, .und, .und, .und, .und, .und, .und, .und, .und, .und, .und, .und, .und, .und, .und, .und, .und, .und, .und, .und, .und, .und, .und, .und, .und, .und, .und, .und, .und, .und, .und, .und, .und, .und], [.var 44 66 (.agg [.si .i64 a0.Role, .si .u32 a0.Params.Access, .si .u32 a0.Params.Init, .si .i64 a0.Params.Update.WinSize, .si .i64 a0.Params.Update.WinOffset, .si .i64 a0.Params.Update.Interval, .si .i64 a0.Params.Update.Latency, .si .i64 a0.Params.Update.Timeout, .si .u64 a0.Params.Map, .si .i64 a0.Params.Hop, .si .i64 a0.Params.PPM, .si .i64 a0.Params.Algorithm, .si .i64 a0.Clock, .si .u16 a0.Event, .si .i64 a0.Last, .si .i64 a0.Anchor, .si .i64 a0.Size, .si .i64 a0.Sync, .si .i64 a0.Heard, .sb a0.Begun, .sb a0.Got, .sb a0.Good, .sb a0.Acked, .sb a0.More, .si .i64 a0.Arq.SN, .si .i64 a0.Arq.NESN, .nil 0, .sb a0.Arq.Open, .sb a0.Arq.Empty, .si .i64 a0.Arq.Acked, .si .i64 a0.Arq.Taken, .si .i64 a0.Listen.Latency, .si .i64 a0.Listen.Skipped, .sb a0.Listen.Full, .si .i64 a0.Procs.Role, .si .i64 a0.Procs.Own, .si .i64 a0.Procs.Since, .nil 0, .si .i64 a0.Procs.Other, .si .i64 a0.Procs.OtherTime, .nil 0, .sb a0.Procs.Told, .si .u64 a0.Procs.Features, .si .u64 a0.Procs.Common, .sb a0.Procs.Known, .sb a0.Procs.VersionTx, .si .i64 a0.Procs.Version, .si .i64 a0.Procs.Length, .si .i64 a0.Procs.Limit, .si .u64 a0.Procs.Salt, .si .u64 a0.Procs.Peer, .si .u64 a0.Procs.Mark, .si .i64 a0.Procs.Crypt, .si .i64 a0.Procs.Ended, .si .i64 a0.Session.Role, .si .u64 a0.Session.Key, .si .u64 a0.Session.Salt, .sb a0.Session.TxOn, .sb a0.Session.RxOn, .si .u64 a0.Session.Tx, .si .u64 a0.Session.Rx, .si .u64 a0.Key, .nil 0, .nil 0, .si .i64 a0.Reason, .si .u64 a0.Seed])]⟩, true⟩
  | .b4 a0 a1 a2 a3 a4 a5 a6 => ⟨(nav c_r30_New [1, 1, 1, 1, 1, 0] []).1, (nav c_r30_New [1, 1, 1, 1, 1, 0] []).2, ⟨[.si .i64 a0, .und, .si .i64 a1, .si .u64 a2, .si .u64 a3, .si .i64 a4, .und, .ptr 0 0 0 1, .und, .und, .und, .und, .ptr 1 0 0 1, .und, .und, .und, .und, .und, .und, .und, .und, .und, .und, .und, .und, .und, .und, .und, .und, .und, .und, .und, .und, .und, .und, .und, .und, .und, .und, .und, .und, .und, .und, .und, .und, .und, .und, .und, .und, .und, .und, .und, .und, .und, .und, .und, .und, .und, .und, .und, .und, .und, .und, .und, .und, .und, .und, .und, .und, .und, .und, .und, .und, .und, .und, .und], [.var 28 11 (U.encS 28 a5), .var 44 66 (.agg [.si .i64 a6.Role, .si .u32 a6.Params.Access, .si .u32 a6.Params.Init, .si .i64 a6.Params.Update.WinSize, .si .i64 a6.Params.Update.WinOffset, .si .i64 a6.Params.Update.Interval, .si .i64 a6.Params.Update.Latency, .si .i64 a6.Params.Update.Timeout, .si .u64 a6.Params.Map, .si .i64 a6.Params.Hop, .si .i64 a6.Params.PPM, .si .i64 a6.Params.Algorithm, .si .i64 a6.Clock, .si .u16 a6.Event, .si .i64 a6.Last, .si .i64 a6.Anchor, .si .i64 a6.Size, .si .i64 a6.Sync, .si .i64 a6.Heard, .sb a6.Begun, .sb a6.Got, .sb a6.Good, .sb a6.Acked, .sb a6.More, .si .i64 a6.Arq.SN, .si .i64 a6.Arq.NESN, .nil 0, .sb a6.Arq.Open, .sb a6.Arq.Empty, .si .i64 a6.Arq.Acked, .si .i64 a6.Arq.Taken, .si .i64 a6.Listen.Latency, .si .i64 a6.Listen.Skipped, .sb a6.Listen.Full, .si .i64 a6.Procs.Role, .si .i64 a6.Procs.Own, .si .i64 a6.Procs.Since, .nil 0, .si .i64 a6.Procs.Other, .si .i64 a6.Procs.OtherTime, .nil 0, .sb a6.Procs.Told, .si .u64 a6.Procs.Features, .si .u64 a6.Procs.Common, .sb a6.Procs.Known, .sb a6.Procs.VersionTx, .si .i64 a6.Procs.Version, .si .i64 a6.Procs.Length, .si .i64 a6.Procs.Limit, .si .u64 a6.Procs.Salt, .si .u64 a6.Procs.Peer, .si .u64 a6.Procs.Mark, .si .i64 a6.Procs.Crypt, .si .i64 a6.Procs.Ended, .si .i64 a6.Session.Role, .si .u64 a6.Session.Key, .si .u64 a6.Session.Salt, .sb a6.Session.TxOn, .sb a6.Session.RxOn, .si .u64 a6.Session.Tx, .si .u64 a6.Session.Rx, .si .u64 a6.Key, .nil 0, .nil 0, .si .i64 a6.Reason, .si .u64 a6.Seed])]⟩, true⟩
theorem blk_r30_New : ∀ p, Le.runT (EV Tryz.prog gl 12 mods_r30_New noH) (mdlOf mods_r30_New noH) A_r30_New 12 Tryz.f12 0 (doneP (EV Tryz.prog gl 12 mods_r30_New noH) Tryz.f12) 1000 (.run (sp_r30_New p).c) (sp_r30_New p).K (sp_r30_New p).st (sp_r30_New p).sk = (T_r30_New p).map (leafOf (outP (U := U) 46) sp_r30_New)
  | .b0 a0 a1 a2 a3 a4 a5 => by kernel_rfl
  | .b1 a0 => by kernel_rfl
  | .b2 a0 a1 a2 a3 a4 a5 a6 => by kernel_rfl
  | .b3 a0 => by kernel_rfl
  | .b4 a0 a1 a2 a3 a4 a5 a6 => by kernel_rfl
theorem ok_r30_New : FnOK Tryz.prog B0 12 M_r30_New := by
  refine fn_flow rfl (univ_ok _ rfl) mix_ok (fn := Tryz.f12) (c := c_r30_New) (mods := mods_r30_New) (hmods := noH) ?_ (fun g k m h => by cases h) Tryz.func12 (by kernel_rfl) (by kernel_rfl) (by kernel_rfl) M_r30_New T_r30_New sp_r30_New blk_r30_New (fun x => .b0 x.1 x.2.1 x.2.2.1 x.2.2.2.1 x.2.2.2.2.1 x.2.2.2.2.2.1) (fun x => rfl) (fun x => rfl)
  intro g m h
  unfold mods_r30_New at h
  split at h <;> cases h
  · exact ok_r17_Check
  · exact ok_r17_First
  · exact ok_r24_New
  · exact ok_r25_New
  · exact ok_r28_New
  · exact ok_r14_Fresh

end Go.Proofs.YtjodhcdmhobmoaaGreatDoor
