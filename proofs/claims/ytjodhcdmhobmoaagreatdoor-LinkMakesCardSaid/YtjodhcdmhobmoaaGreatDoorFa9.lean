/-
  Functions of the program as functions of Lean (printed by a program of mine).
-/
import Derived.Test.YtjodhcdmhobmoaaGreatDoorFa8
namespace Go.Proofs.YtjodhcdmhobmoaaGreatDoor
open Go Go.Proofs.YtjodhcdmhobmoaaGreatDoor.Le
set_option linter.unusedVariables false
set_option maxRecDepth 100000
/-! wireless/hop.Mix -/
inductive P_hop_Mix where
  | b0 (a0 : Int) (a1 : Int) (a2 : Int)
noncomputable def T_hop_Mix : P_hop_Mix → Tr U (Int ⊕ P_hop_Mix)
  | .b0 a0 a1 a2 => .bind 30 (m_hop_Ident a2) (fun (x1 : Int) => 
    .bind 30 (m_hop_Random a1 x1) (fun (x2 : Int) => 
      .bind 4 (m_chanmap_Has a0 (Int.tmod (w64 (x2)) (37 : Int))) (fun (x3 : Bool) => 
        .br x3 (
          .leaf (.inl (Int.tmod (w64 (x2)) (37 : Int)))) (
          .bind 3 (m_chanmap_Count a0) (fun (x4 : Int) => 
            .bind 3 (m_chanmap_Nth a0 (Int.fdiv (w64 (x4 * (w64 (x2)))) (2 ^ (16 : Nat)))) (fun (x5 : Int) => 
              .leaf (.inl x5)))))))
noncomputable def m_hop_Mix (a0 : Int) (a1 : Int) (a2 : Int) : Option Int := flow T_hop_Mix (.b0 a0 a1 a2)
noncomputable def M_hop_Mix : Mod U := { ts := [26, 30, 22], rt := 3, fn := fun x => m_hop_Mix x.1 x.2.1 x.2.2.1, ok := by decide }
noncomputable def A_hop_Mix : Nat → Option (List Nat)
  | _ => none
noncomputable def mods_hop_Mix : FuncId → Option (Mod U)
  | 133 => some M_hop_Random
  | 134 => some M_hop_Ident
  | 218 => some M_chanmap_Count
  | 223 => some M_chanmap_Has
  | 224 => some M_chanmap_Nth
  | _ => none
noncomputable def c_hop_Mix : Code := bodyOf Tryz.f135
noncomputable def sp_hop_Mix : P_hop_Mix → Spot U
  | .b0 a0 a1 a2 => ⟨c_hop_Mix, [], entryS [26, 30, 22] (a0, a1, a2, ()) 27, false⟩
theorem blk_hop_Mix : ∀ p, Le.runT (EV Tryz.prog gl 135 mods_hop_Mix noH) (mdlOf mods_hop_Mix noH) A_hop_Mix 135 Tryz.f135 0 (doneP (EV Tryz.prog gl 135 mods_hop_Mix noH) Tryz.f135) 1000 (.run (sp_hop_Mix p).c) (sp_hop_Mix p).K (sp_hop_Mix p).st (sp_hop_Mix p).sk = (T_hop_Mix p).map (leafOf (outP (U := U) 3) sp_hop_Mix)
  | .b0 a0 a1 a2 => by kernel_rfl
theorem ok_hop_Mix : FnOK Tryz.prog B0 135 M_hop_Mix := by
  refine fn_flow rfl (univ_ok _ rfl) mix_ok (fn := Tryz.f135) (c := c_hop_Mix) (mods := mods_hop_Mix) (hmods := noH) ?_ (fun g k m h => by cases h) Tryz.func135 (by kernel_rfl) (by kernel_rfl) (by kernel_rfl) M_hop_Mix T_hop_Mix sp_hop_Mix blk_hop_Mix (fun x => .b0 x.1 x.2.1 x.2.2.1) (fun x => rfl) (fun x => rfl)
  intro g m h
  unfold mods_hop_Mix at h
  split at h <;> cases h
  · exact ok_hop_Random
  · exact ok_hop_Ident
  · exact ok_chanmap_Count
  · exact ok_chanmap_Has
  · exact ok_chanmap_Nth

/-! wireless/hop.Step -/
inductive P_hop_Step where
  | b0 (a0 : Int) (a1 : Int)
noncomputable def T_hop_Step : P_hop_Step → Tr U (Int ⊕ P_hop_Step)
  | .b0 a0 a1 => .leaf (.inl (Int.tmod (w64 ((w64 ((Int.tmod a0 (37 : Int)) + (Int.tmod a1 (37 : Int)))) + (74 : Int))) (37 : Int)))
noncomputable def m_hop_Step (a0 : Int) (a1 : Int) : Option Int := flow T_hop_Step (.b0 a0 a1)
noncomputable def M_hop_Step : Mod U := { ts := [3, 3], rt := 3, fn := fun x => m_hop_Step x.1 x.2.1, ok := by decide }
noncomputable def A_hop_Step : Nat → Option (List Nat)
  | _ => none
noncomputable def mods_hop_Step : FuncId → Option (Mod U)
  | _ => none
noncomputable def c_hop_Step : Code := bodyOf Tryz.f136
noncomputable def sp_hop_Step : P_hop_Step → Spot U
  | .b0 a0 a1 => ⟨c_hop_Step, [], entryS [3, 3] (a0, a1, ()) 12, false⟩
theorem blk_hop_Step : ∀ p, Le.runT (EV Tryz.prog gl 136 mods_hop_Step noH) (mdlOf mods_hop_Step noH) A_hop_Step 136 Tryz.f136 0 (doneP (EV Tryz.prog gl 136 mods_hop_Step noH) Tryz.f136) 1000 (.run (sp_hop_Step p).c) (sp_hop_Step p).K (sp_hop_Step p).st (sp_hop_Step p).sk = (T_hop_Step p).map (leafOf (outP (U := U) 3) sp_hop_Step)
  | .b0 a0 a1 => by kernel_rfl
theorem ok_hop_Step : FnOK Tryz.prog B0 136 M_hop_Step := by
  refine fn_flow rfl (univ_ok _ rfl) mix_ok (fn := Tryz.f136) (c := c_hop_Step) (mods := mods_hop_Step) (hmods := noH) ?_ (fun g k m h => by cases h) Tryz.func136 (by kernel_rfl) (by kernel_rfl) (by kernel_rfl) M_hop_Step T_hop_Step sp_hop_Step blk_hop_Step (fun x => .b0 x.1 x.2.1) (fun x => rfl) (fun x => rfl)
  intro g m h
  cases h

/-! wireless/chanmap.Remap -/
inductive P_chanmap_Remap where
  | b0 (a0 : Int) (a1 : Int)
noncomputable def T_chanmap_Remap : P_chanmap_Remap → Tr U (Int ⊕ P_chanmap_Remap)
  | .b0 a0 a1 => .bind 4 (m_chanmap_Has a0 (if (36 : Int) < (if (0 : Int) > a1 then (0 : Int) else a1) then (36 : Int) else (if (0 : Int) > a1 then (0 : Int) else a1))) (fun (x1 : Bool) => 
    .br x1 (
      .leaf (.inl (if (36 : Int) < (if (0 : Int) > a1 then (0 : Int) else a1) then (36 : Int) else (if (0 : Int) > a1 then (0 : Int) else a1)))) (
      .bind 3 (m_chanmap_Count a0) (fun (x2 : Int) => 
        .br (x2 == (0 : Int)) (
          .leaf (.inl (-1 : Int))) (
          .bind 3 (m_chanmap_Count a0) (fun (x3 : Int) => 
            .chk (x3 != 0) (
              .bind 3 (m_chanmap_Nth a0 (Int.tmod (if (36 : Int) < (if (0 : Int) > a1 then (0 : Int) else a1) then (36 : Int) else (if (0 : Int) > a1 then (0 : Int) else a1)) x3)) (fun (x4 : Int) => 
                .leaf (.inl x4))))))))
noncomputable def m_chanmap_Remap (a0 : Int) (a1 : Int) : Option Int := flow T_chanmap_Remap (.b0 a0 a1)
noncomputable def M_chanmap_Remap : Mod U := { ts := [26, 3], rt := 3, fn := fun x => m_chanmap_Remap x.1 x.2.1, ok := by decide }
noncomputable def A_chanmap_Remap : Nat → Option (List Nat)
  | _ => none
noncomputable def mods_chanmap_Remap : FuncId → Option (Mod U)
  | 218 => some M_chanmap_Count
  | 223 => some M_chanmap_Has
  | 224 => some M_chanmap_Nth
  | _ => none
noncomputable def c_chanmap_Remap : Code := bodyOf Tryz.f137
noncomputable def sp_chanmap_Remap : P_chanmap_Remap → Spot U
  | .b0 a0 a1 => ⟨c_chanmap_Remap, [], entryS [26, 3] (a0, a1, ()) 21, false⟩
theorem blk_chanmap_Remap : ∀ p, Le.runT (EV Tryz.prog gl 137 mods_chanmap_Remap noH) (mdlOf mods_chanmap_Remap noH) A_chanmap_Remap 137 Tryz.f137 0 (doneP (EV Tryz.prog gl 137 mods_chanmap_Remap noH) Tryz.f137) 1000 (.run (sp_chanmap_Remap p).c) (sp_chanmap_Remap p).K (sp_chanmap_Remap p).st (sp_chanmap_Remap p).sk = (T_chanmap_Remap p).map (leafOf (outP (U := U) 3) sp_chanmap_Remap)
  | .b0 a0 a1 => by kernel_rfl
theorem ok_chanmap_Remap : FnOK Tryz.prog B0 137 M_chanmap_Remap := by
  refine fn_flow rfl (univ_ok _ rfl) mix_ok (fn := Tryz.f137) (c := c_chanmap_Remap) (mods := mods_chanmap_Remap) (hmods := noH) ?_ (fun g k m h => by cases h) Tryz.func137 (by kernel_rfl) (by kernel_rfl) (by kernel_rfl) M_chanmap_Remap T_chanmap_Remap sp_chanmap_Remap blk_chanmap_Remap (fun x => .b0 x.1 x.2.1) (fun x => rfl) (fun x => rfl)
  intro g m h
  unfold mods_chanmap_Remap at h
  split at h <;> cases h
  · exact ok_chanmap_Count
  · exact ok_chanmap_Has
  · exact ok_chanmap_Nth

/-! wireless/hop.Next -/
inductive P_hop_Next where
  | b0 (a0 : api_ConnParams) (a1 : Int) (a2 : Int)
noncomputable def T_hop_Next : P_hop_Next → Tr U ((Int × Int) ⊕ P_hop_Next)
  | .b0 a0 a1 a2 => .br (a0.Algorithm == (2 : Int)) (
    .bind 30 (m_hop_Ident a0.Access) (fun (x1 : Int) => 
      .bind 30 (m_hop_Random a1 x1) (fun (x2 : Int) => 
        .bind 3 (m_hop_Mix a0.Map a1 a0.Access) (fun (x3 : Int) => 
          .leaf (.inl (x3, (w64 ((Int.tmod x2 (37 : Int)))))))))) (
    .bind 3 (m_hop_Step a2 a0.Hop) (fun (x4 : Int) => 
      .bind 3 (m_chanmap_Remap a0.Map x4) (fun (x5 : Int) => 
        .leaf (.inl (x5, x4)))))
noncomputable def m_hop_Next (a0 : api_ConnParams) (a1 : Int) (a2 : Int) : Option (Int × Int) := flow T_hop_Next (.b0 a0 a1 a2)
noncomputable def M_hop_Next : Mod U := { ts := [28, 30, 3], rt := 104, fn := fun x => m_hop_Next x.1 x.2.1 x.2.2.1, ok := by decide }
noncomputable def A_hop_Next : Nat → Option (List Nat)
  | _ => none
noncomputable def mods_hop_Next : FuncId → Option (Mod U)
  | 133 => some M_hop_Random
  | 134 => some M_hop_Ident
  | 135 => some M_hop_Mix
  | 136 => some M_hop_Step
  | 137 => some M_chanmap_Remap
  | _ => none
noncomputable def c_hop_Next : Code := bodyOf Tryz.f53
noncomputable def sp_hop_Next : P_hop_Next → Spot U
  | .b0 a0 a1 a2 => ⟨c_hop_Next, [], entryS [28, 30, 3] (a0, a1, a2, ()) 35, false⟩
theorem blk_hop_Next : ∀ p, Le.runT (EV Tryz.prog gl 53 mods_hop_Next noH) (mdlOf mods_hop_Next noH) A_hop_Next 53 Tryz.f53 0 (doneP (EV Tryz.prog gl 53 mods_hop_Next noH) Tryz.f53) 1000 (.run (sp_hop_Next p).c) (sp_hop_Next p).K (sp_hop_Next p).st (sp_hop_Next p).sk = (T_hop_Next p).map (leafOf (outP (U := U) 104) sp_hop_Next)
  | .b0 a0 a1 a2 => by kernel_rfl
theorem ok_hop_Next : FnOK Tryz.prog B0 53 M_hop_Next := by
  refine fn_flow rfl (univ_ok _ rfl) mix_ok (fn := Tryz.f53) (c := c_hop_Next) (mods := mods_hop_Next) (hmods := noH) ?_ (fun g k m h => by cases h) Tryz.func53 (by kernel_rfl) (by kernel_rfl) (by kernel_rfl) M_hop_Next T_hop_Next sp_hop_Next blk_hop_Next (fun x => .b0 x.1 x.2.1 x.2.2.1) (fun x => rfl) (fun x => rfl)
  intro g m h
  unfold mods_hop_Next at h
  split at h <;> cases h
  · exact ok_hop_Random
  · exact ok_hop_Ident
  · exact ok_hop_Mix
  · exact ok_hop_Step
  · exact ok_chanmap_Remap

/-! wireless/link.Channel -/
inductive P_link_Channel where
  | b0 (a0 : api_Link)
noncomputable def T_link_Channel : P_link_Channel → Tr U (Int ⊕ P_link_Channel)
  | .b0 a0 => .bind 104 (m_hop_Next a0.Params a0.Event a0.Last) (fun (x1 : Int × Int) => 
    .leaf (.inl x1.1))
noncomputable def m_link_Channel (a0 : api_Link) : Option Int := flow T_link_Channel (.b0 a0)
noncomputable def M_link_Channel : Mod U := { ts := [44], rt := 3, fn := fun x => m_link_Channel x.1, ok := by decide }
noncomputable def A_link_Channel : Nat → Option (List Nat)
  | _ => none
noncomputable def mods_link_Channel : FuncId → Option (Mod U)
  | 53 => some M_hop_Next
  | _ => none
noncomputable def c_link_Channel : Code := bodyOf Tryz.f15
noncomputable def sp_link_Channel : P_link_Channel → Spot U
  | .b0 a0 => ⟨c_link_Channel, [], entryS [44] (a0, ()) 16, false⟩
theorem blk_link_Channel : ∀ p, Le.runT (EV Tryz.prog gl 15 mods_link_Channel noH) (mdlOf mods_link_Channel noH) A_link_Channel 15 Tryz.f15 0 (doneP (EV Tryz.prog gl 15 mods_link_Channel noH) Tryz.f15) 1000 (.run (sp_link_Channel p).c) (sp_link_Channel p).K (sp_link_Channel p).st (sp_link_Channel p).sk = (T_link_Channel p).map (leafOf (outP (U := U) 3) sp_link_Channel)
  | .b0 a0 => by kernel_rfl
theorem ok_link_Channel : FnOK Tryz.prog B0 15 M_link_Channel := by
  refine fn_flow rfl (univ_ok _ rfl) mix_ok (fn := Tryz.f15) (c := c_link_Channel) (mods := mods_link_Channel) (hmods := noH) ?_ (fun g k m h => by cases h) Tryz.func15 (by kernel_rfl) (by kernel_rfl) (by kernel_rfl) M_link_Channel T_link_Channel sp_link_Channel blk_link_Channel (fun x => .b0 x.1) (fun x => rfl) (fun x => rfl)
  intro g m h
  unfold mods_link_Channel at h
  split at h <;> cases h
  · exact ok_hop_Next

/-! wireless/wirelessref13.reversed -/
inductive P_r13_reversed where
  | b0 (a0 : Int)
  | b1 (a0 : Int) (a1 : Int) (a2 : Int)
noncomputable def T_r13_reversed : P_r13_reversed → Tr U (Int ⊕ P_r13_reversed)
  | .b0 a0 => .leaf (.inr (.b1 a0 (0 : Int) (0 : Int)))
  | .b1 a0 a1 a2 => .br (decide (a2 < (8 : Int))) (
    .leaf (.inr (.b1 (w64 (Int.tdiv a0 (2 : Int))) (w64 ((w64 ((2 : Int) * a1)) + (Int.tmod a0 (2 : Int)))) (w64 (a2 + (1 : Int)))))) (
    .leaf (.inl a1))
noncomputable def m_r13_reversed (a0 : Int) : Option Int := flow T_r13_reversed (.b0 a0)
noncomputable def M_r13_reversed : Mod U := { ts := [3], rt := 3, fn := fun x => m_r13_reversed x.1, ok := by decide }
noncomputable def A_r13_reversed : Nat → Option (List Nat)
  | 3 => some [0, 3, 4]
  | _ => none
noncomputable def mods_r13_reversed : FuncId → Option (Mod U)
  | _ => none
noncomputable def c_r13_reversed : Code := bodyOf Tryz.f227
noncomputable def sp_r13_reversed : P_r13_reversed → Spot U
  | .b0 a0 => ⟨c_r13_reversed, [], entryS [3] (a0, ()) 17, false⟩
  | .b1 a0 a1 a2 => ⟨(nav c_r13_reversed [1, 1, 0, 1, 0, 0, 0, 0] []).1, (nav c_r13_reversed [1, 1, 0, 1, 0, 0, 0, 0] []).2, ⟨[.si .i64 a0, .und, .und, .si .i64 a1, .si .i64 a2, .und, .und, .und, .und, .und, .und, .und, .und, .und, .und, .und, .und], []⟩, true⟩
theorem blk_r13_reversed : ∀ p, Le.runT (EV Tryz.prog gl 227 mods_r13_reversed noH) (mdlOf mods_r13_reversed noH) A_r13_reversed 227 Tryz.f227 0 (doneP (EV Tryz.prog gl 227 mods_r13_reversed noH) Tryz.f227) 1000 (.run (sp_r13_reversed p).c) (sp_r13_reversed p).K (sp_r13_reversed p).st (sp_r13_reversed p).sk = (T_r13_reversed p).map (leafOf (outP (U := U) 3) sp_r13_reversed)
  | .b0 a0 => by kernel_rfl
  | .b1 a0 a1 a2 => by kernel_rfl
theorem ok_r13_reversed : FnOK Tryz.prog B0 227 M_r13_reversed := by
  refine fn_flow rfl (univ_ok _ rfl) mix_ok (fn := Tryz.f227) (c := c_r13_reversed) (mods := mods_r13_reversed) (hmods := noH) ?_ (fun g k m h => by cases h) Tryz.func227 (by kernel_rfl) (by kernel_rfl) (by kernel_rfl) M_r13_reversed T_r13_reversed sp_r13_reversed blk_r13_reversed (fun x => .b0 x.1) (fun x => rfl) (fun x => rfl)
  intro g m h
  cases h

/-! wireless/wirelessref13.Random -/
inductive P_r13_Random where
  | b0 (a0 : Int) (a1 : Int)
  | b1 (a0 : Int) (a1 : Int) (a2 : Int)
noncomputable def T_r13_Random : P_r13_Random → Tr U (Int ⊕ P_r13_Random)
  | .b0 a0 a1 => .leaf (.inr (.b1 a1 (bits .xor .u16 a0 a1) (0 : Int)))
  | .b1 a0 a1 a2 => .br (decide (a2 < (3 : Int))) (
    .bind 3 (m_r13_reversed (w64 (Int.tdiv (w64 (a1)) (256 : Int)))) (fun (x1 : Int) => 
      .bind 3 (m_r13_reversed (Int.tmod (w64 (a1)) (256 : Int))) (fun (x2 : Int) => 
        .leaf (.inr (.b1 a0 (IntKind.wrap .u16 ((Int.tmod (w64 ((w64 ((17 : Int) * (w64 ((w64 ((256 : Int) * x1)) + x2)))) + (w64 (a0)))) (65536 : Int)))) (w64 (a2 + (1 : Int)))))))) (
    .leaf (.inl (bits .xor .u16 a1 a0)))
noncomputable def m_r13_Random (a0 : Int) (a1 : Int) : Option Int := flow T_r13_Random (.b0 a0 a1)
noncomputable def M_r13_Random : Mod U := { ts := [30, 30], rt := 30, fn := fun x => m_r13_Random x.1 x.2.1, ok := by decide }
noncomputable def A_r13_Random : Nat → Option (List Nat)
  | 3 => some [1, 5, 6]
  | _ => none
noncomputable def mods_r13_Random : FuncId → Option (Mod U)
  | 227 => some M_r13_reversed
  | _ => none
noncomputable def c_r13_Random : Code := bodyOf Tryz.f139
noncomputable def sp_r13_Random : P_r13_Random → Spot U
  | .b0 a0 a1 => ⟨c_r13_Random, [], entryS [30, 30] (a0, a1, ()) 35, false⟩
  | .b1 a0 a1 a2 => ⟨(nav c_r13_Random [1, 1, 0, 1, 0, 0, 0, 0] []).1, (nav c_r13_Random [1, 1, 0, 1, 0, 0, 0, 0] []).2, ⟨[.und, .si .u16 a0, .und, .und, .und, .si .u16 a1, .si .i64 a2, .und, .und, .und, .und, .und, .und, .und, .und, .und, .und, .und, .und, .und, .und, .und, .und, .und, .und, .und, .und, .und, .und, .und, .und, .und, .und, .und, .und], []⟩, true⟩
theorem blk_r13_Random : ∀ p, Le.runT (EV Tryz.prog gl 139 mods_r13_Random noH) (mdlOf mods_r13_Random noH) A_r13_Random 139 Tryz.f139 0 (doneP (EV Tryz.prog gl 139 mods_r13_Random noH) Tryz.f139) 1000 (.run (sp_r13_Random p).c) (sp_r13_Random p).K (sp_r13_Random p).st (sp_r13_Random p).sk = (T_r13_Random p).map (leafOf (outP (U := U) 30) sp_r13_Random)
  | .b0 a0 a1 => by kernel_rfl
  | .b1 a0 a1 a2 => by kernel_rfl
theorem ok_r13_Random : FnOK Tryz.prog B0 139 M_r13_Random := by
  refine fn_flow rfl (univ_ok _ rfl) mix_ok (fn := Tryz.f139) (c := c_r13_Random) (mods := mods_r13_Random) (hmods := noH) ?_ (fun g k m h => by cases h) Tryz.func139 (by kernel_rfl) (by kernel_rfl) (by kernel_rfl) M_r13_Random T_r13_Random sp_r13_Random blk_r13_Random (fun x => .b0 x.1 x.2.1) (fun x => rfl) (fun x => rfl)
  intro g m h
  unfold mods_r13_Random at h
  split at h <;> cases h
  · exact ok_r13_reversed

/-! wireless/wirelessref13.Ident -/
inductive P_r13_Ident where
  | b0 (a0 : Int)
noncomputable def T_r13_Ident : P_r13_Ident → Tr U (Int ⊕ P_r13_Ident)
  | .b0 a0 => .leaf (.inl (bits .xor .u16 (IntKind.wrap .u16 ((IntKind.wrap .u32 (Int.tdiv a0 (65536 : Int))))) (IntKind.wrap .u16 ((Int.tmod a0 (65536 : Int))))))
noncomputable def m_r13_Ident (a0 : Int) : Option Int := flow T_r13_Ident (.b0 a0)
noncomputable def M_r13_Ident : Mod U := { ts := [22], rt := 30, fn := fun x => m_r13_Ident x.1, ok := by decide }
noncomputable def A_r13_Ident : Nat → Option (List Nat)
  | _ => none
noncomputable def mods_r13_Ident : FuncId → Option (Mod U)
  | _ => none
noncomputable def c_r13_Ident : Code := bodyOf Tryz.f140
noncomputable def sp_r13_Ident : P_r13_Ident → Spot U
  | .b0 a0 => ⟨c_r13_Ident, [], entryS [22] (a0, ()) 10, false⟩
theorem blk_r13_Ident : ∀ p, Le.runT (EV Tryz.prog gl 140 mods_r13_Ident noH) (mdlOf mods_r13_Ident noH) A_r13_Ident 140 Tryz.f140 0 (doneP (EV Tryz.prog gl 140 mods_r13_Ident noH) Tryz.f140) 1000 (.run (sp_r13_Ident p).c) (sp_r13_Ident p).K (sp_r13_Ident p).st (sp_r13_Ident p).sk = (T_r13_Ident p).map (leafOf (outP (U := U) 30) sp_r13_Ident)
  | .b0 a0 => by kernel_rfl
theorem ok_r13_Ident : FnOK Tryz.prog B0 140 M_r13_Ident := by
  refine fn_flow rfl (univ_ok _ rfl) mix_ok (fn := Tryz.f140) (c := c_r13_Ident) (mods := mods_r13_Ident) (hmods := noH) ?_ (fun g k m h => by cases h) Tryz.func140 (by kernel_rfl) (by kernel_rfl) (by kernel_rfl) M_r13_Ident T_r13_Ident sp_r13_Ident blk_r13_Ident (fun x => .b0 x.1) (fun x => rfl) (fun x => rfl)
  intro g m h
  cases h

/-! wireless/wirelessref12.Nth -/
inductive P_r12_Nth where
  | b0 (a0 : Int) (a1 : Int)
  | b1 (a0 : Int) (a1 : List Int)
noncomputable def T_r12_Nth : P_r12_Nth → Tr U (Int ⊕ P_r12_Nth)
  | .b0 a0 a1 => .bind 226 (m_r12_List a0) (fun (x1 : List Int) => 
    .br (decide (a1 < (0 : Int))) (
      .leaf (.inl (-1 : Int))) (
      .br (decide (a1 ≥ (↑x1.length : Int))) (
        .leaf (.inl (-1 : Int))) (
        .leaf (.inr (.b1 a1 x1)))))
  | .b1 a0 a1 => .chk (decide (0 ≤ a0 ∧ a0 < (↑a1.length : Int))) (
    .bind 3 (a1[(Int.toNat a0)]?) (fun (x1 : Int) => 
      .leaf (.inl x1)))
noncomputable def m_r12_Nth (a0 : Int) (a1 : Int) : Option Int := flow T_r12_Nth (.b0 a0 a1)
noncomputable def M_r12_Nth : Mod U := { ts := [26, 3], rt := 3, fn := fun x => m_r12_Nth x.1 x.2.1, ok := by decide }
noncomputable def A_r12_Nth : Nat → Option (List Nat)
  | 4 => some [1, 5]
  | _ => none
noncomputable def mods_r12_Nth : FuncId → Option (Mod U)
  | 202 => some M_r12_List
  | _ => none
noncomputable def c_r12_Nth : Code := bodyOf Tryz.f226
noncomputable def sp_r12_Nth : P_r12_Nth → Spot U
  | .b0 a0 a1 => ⟨c_r12_Nth, [], entryS [26, 3] (a0, a1, ()) 20, false⟩
  | .b1 a0 a1 => ⟨(nav c_r12_Nth [1, 1, 1, 0] []).1, (nav c_r12_Nth [1, 1, 1, 0] []).2, ⟨[.und, .si .i64 a0, .und, .und, .und, .sl 3 a1, .und, .und, .und, .und, .und, .und, .und, .und, .und, .und, .und, .und, .und, .und], []⟩, true⟩
theorem blk_r12_Nth : ∀ p, Le.runT (EV Tryz.prog gl 226 mods_r12_Nth noH) (mdlOf mods_r12_Nth noH) A_r12_Nth 226 Tryz.f226 0 (doneP (EV Tryz.prog gl 226 mods_r12_Nth noH) Tryz.f226) 1000 (.run (sp_r12_Nth p).c) (sp_r12_Nth p).K (sp_r12_Nth p).st (sp_r12_Nth p).sk = (T_r12_Nth p).map (leafOf (outP (U := U) 3) sp_r12_Nth)
  | .b0 a0 a1 => by kernel_rfl
  | .b1 a0 a1 => by kernel_rfl
theorem ok_r12_Nth : FnOK Tryz.prog B0 226 M_r12_Nth := by
  refine fn_flow rfl (univ_ok _ rfl) mix_ok (fn := Tryz.f226) (c := c_r12_Nth) (mods := mods_r12_Nth) (hmods := noH) ?_ (fun g k m h => by cases h) Tryz.func226 (by kernel_rfl) (by kernel_rfl) (by kernel_rfl) M_r12_Nth T_r12_Nth sp_r12_Nth blk_r12_Nth (fun x => .b0 x.1 x.2.1) (fun x => rfl) (fun x => rfl)
  intro g m h
  unfold mods_r12_Nth at h
  split at h <;> cases h
  · exact ok_r12_List

/-! wireless/wirelessref13.Mix -/
inductive P_r13_Mix where
  | b0 (a0 : Int) (a1 : Int) (a2 : Int)
noncomputable def T_r13_Mix : P_r13_Mix → Tr U (Int ⊕ P_r13_Mix)
  | .b0 a0 a1 a2 => .bind 30 (m_r13_Ident a2) (fun (x1 : Int) => 
    .bind 30 (m_r13_Random a1 x1) (fun (x2 : Int) => 
      .bind 4 (m_r12_Has a0 (Int.tmod (w64 (x2)) (37 : Int))) (fun (x3 : Bool) => 
        .br x3 (
          .leaf (.inl (Int.tmod (w64 (x2)) (37 : Int)))) (
          .bind 3 (m_r12_Count a0) (fun (x4 : Int) => 
            .bind 3 (m_r12_Nth a0 (w64 (Int.tdiv (w64 (x4 * (w64 (x2)))) (65536 : Int)))) (fun (x5 : Int) => 
              .leaf (.inl x5)))))))
noncomputable def m_r13_Mix (a0 : Int) (a1 : Int) (a2 : Int) : Option Int := flow T_r13_Mix (.b0 a0 a1 a2)
noncomputable def M_r13_Mix : Mod U := { ts := [26, 30, 22], rt := 3, fn := fun x => m_r13_Mix x.1 x.2.1 x.2.2.1, ok := by decide }
noncomputable def A_r13_Mix : Nat → Option (List Nat)
  | _ => none
noncomputable def mods_r13_Mix : FuncId → Option (Mod U)
  | 139 => some M_r13_Random
  | 140 => some M_r13_Ident
  | 221 => some M_r12_Count
  | 225 => some M_r12_Has
  | 226 => some M_r12_Nth
  | _ => none
noncomputable def c_r13_Mix : Code := bodyOf Tryz.f138
noncomputable def sp_r13_Mix : P_r13_Mix → Spot U
  | .b0 a0 a1 a2 => ⟨c_r13_Mix, [], entryS [26, 30, 22] (a0, a1, a2, ()) 26, false⟩
theorem blk_r13_Mix : ∀ p, Le.runT (EV Tryz.prog gl 138 mods_r13_Mix noH) (mdlOf mods_r13_Mix noH) A_r13_Mix 138 Tryz.f138 0 (doneP (EV Tryz.prog gl 138 mods_r13_Mix noH) Tryz.f138) 1000 (.run (sp_r13_Mix p).c) (sp_r13_Mix p).K (sp_r13_Mix p).st (sp_r13_Mix p).sk = (T_r13_Mix p).map (leafOf (outP (U := U) 3) sp_r13_Mix)
  | .b0 a0 a1 a2 => by kernel_rfl
theorem ok_r13_Mix : FnOK Tryz.prog B0 138 M_r13_Mix := by
  refine fn_flow rfl (univ_ok _ rfl) mix_ok (fn := Tryz.f138) (c := c_r13_Mix) (mods := mods_r13_Mix) (hmods := noH) ?_ (fun g k m h => by cases h) Tryz.func138 (by kernel_rfl) (by kernel_rfl) (by kernel_rfl) M_r13_Mix T_r13_Mix sp_r13_Mix blk_r13_Mix (fun x => .b0 x.1 x.2.1 x.2.2.1) (fun x => rfl) (fun x => rfl)
  intro g m h
  unfold mods_r13_Mix at h
  split at h <;> cases h
  · exact ok_r13_Random
  · exact ok_r13_Ident
  · exact ok_r12_Count
  · exact ok_r12_Has
  · exact ok_r12_Nth

/-! wireless/wirelessref13.Step -/
inductive P_r13_Step where
  | b0 (a0 : Int) (a1 : Int)
noncomputable def T_r13_Step : P_r13_Step → Tr U (Int ⊕ P_r13_Step)
  | .b0 a0 a1 => .leaf (.inl (Int.tmod (w64 ((w64 ((Int.tmod a0 (37 : Int)) + (Int.tmod a1 (37 : Int)))) + (74 : Int))) (37 : Int)))
noncomputable def m_r13_Step (a0 : Int) (a1 : Int) : Option Int := flow T_r13_Step (.b0 a0 a1)
noncomputable def M_r13_Step : Mod U := { ts := [3, 3], rt := 3, fn := fun x => m_r13_Step x.1 x.2.1, ok := by decide }
noncomputable def A_r13_Step : Nat → Option (List Nat)
  | _ => none
noncomputable def mods_r13_Step : FuncId → Option (Mod U)
  | _ => none
noncomputable def c_r13_Step : Code := bodyOf Tryz.f141
noncomputable def sp_r13_Step : P_r13_Step → Spot U
  | .b0 a0 a1 => ⟨c_r13_Step, [], entryS [3, 3] (a0, a1, ()) 12, false⟩
theorem blk_r13_Step : ∀ p, Le.runT (EV Tryz.prog gl 141 mods_r13_Step noH) (mdlOf mods_r13_Step noH) A_r13_Step 141 Tryz.f141 0 (doneP (EV Tryz.prog gl 141 mods_r13_Step noH) Tryz.f141) 1000 (.run (sp_r13_Step p).c) (sp_r13_Step p).K (sp_r13_Step p).st (sp_r13_Step p).sk = (T_r13_Step p).map (leafOf (outP (U := U) 3) sp_r13_Step)
  | .b0 a0 a1 => by kernel_rfl
theorem ok_r13_Step : FnOK Tryz.prog B0 141 M_r13_Step := by
  refine fn_flow rfl (univ_ok _ rfl) mix_ok (fn := Tryz.f141) (c := c_r13_Step) (mods := mods_r13_Step) (hmods := noH) ?_ (fun g k m h => by cases h) Tryz.func141 (by kernel_rfl) (by kernel_rfl) (by kernel_rfl) M_r13_Step T_r13_Step sp_r13_Step blk_r13_Step (fun x => .b0 x.1 x.2.1) (fun x => rfl) (fun x => rfl)
  intro g m h
  cases h

/-! wireless/wirelessref12.Remap -/
inductive P_r12_Remap where
  | b0 (a0 : Int) (a1 : Int)
noncomputable def T_r12_Remap : P_r12_Remap → Tr U (Int ⊕ P_r12_Remap)
  | .b0 a0 a1 => .bind 4 (m_r12_Has a0 (if (if (36 : Int) < a1 then (36 : Int) else a1) > (0 : Int) then (if (36 : Int) < a1 then (36 : Int) else a1) else (0 : Int))) (fun (x1 : Bool) => 
    .br x1 (
      .leaf (.inl (if (if (36 : Int) < a1 then (36 : Int) else a1) > (0 : Int) then (if (36 : Int) < a1 then (36 : Int) else a1) else (0 : Int)))) (
      .bind 3 (m_r12_Count a0) (fun (x2 : Int) => 
        .br (x2 == (0 : Int)) (
          .leaf (.inl (-1 : Int))) (
          .chk (x2 != 0) (
            .bind 3 (m_r12_Nth a0 (Int.tmod (if (if (36 : Int) < a1 then (36 : Int) else a1) > (0 : Int) then (if (36 : Int) < a1 then (36 : Int) else a1) else (0 : Int)) x2)) (fun (x3 : Int) => 
              .leaf (.inl x3)))))))
noncomputable def m_r12_Remap (a0 : Int) (a1 : Int) : Option Int := flow T_r12_Remap (.b0 a0 a1)
noncomputable def M_r12_Remap : Mod U := { ts := [26, 3], rt := 3, fn := fun x => m_r12_Remap x.1 x.2.1, ok := by decide }
noncomputable def A_r12_Remap : Nat → Option (List Nat)
  | _ => none
noncomputable def mods_r12_Remap : FuncId → Option (Mod U)
  | 221 => some M_r12_Count
  | 225 => some M_r12_Has
  | 226 => some M_r12_Nth
  | _ => none
noncomputable def c_r12_Remap : Code := bodyOf Tryz.f142
noncomputable def sp_r12_Remap : P_r12_Remap → Spot U
  | .b0 a0 a1 => ⟨c_r12_Remap, [], entryS [26, 3] (a0, a1, ()) 22, false⟩
theorem blk_r12_Remap : ∀ p, Le.runT (EV Tryz.prog gl 142 mods_r12_Remap noH) (mdlOf mods_r12_Remap noH) A_r12_Remap 142 Tryz.f142 0 (doneP (EV Tryz.prog gl 142 mods_r12_Remap noH) Tryz.f142) 1000 (.run (sp_r12_Remap p).c) (sp_r12_Remap p).K (sp_r12_Remap p).st (sp_r12_Remap p).sk = (T_r12_Remap p).map (leafOf (outP (U := U) 3) sp_r12_Remap)
  | .b0 a0 a1 => by kernel_rfl
theorem ok_r12_Remap : FnOK Tryz.prog B0 142 M_r12_Remap := by
  refine fn_flow rfl (univ_ok _ rfl) mix_ok (fn := Tryz.f142) (c := c_r12_Remap) (mods := mods_r12_Remap) (hmods := noH) ?_ (fun g k m h => by cases h) Tryz.func142 (by kernel_rfl) (by kernel_rfl) (by kernel_rfl) M_r12_Remap T_r12_Remap sp_r12_Remap blk_r12_Remap (fun x => .b0 x.1 x.2.1) (fun x => rfl) (fun x => rfl)
  intro g m h
  unfold mods_r12_Remap at h
  split at h <;> cases h
  · exact ok_r12_Count
  · exact ok_r12_Has
  · exact ok_r12_Nth

/-! wireless/wirelessref13.Next -/
inductive P_r13_Next where
  | b0 (a0 : api_ConnParams) (a1 : Int) (a2 : Int)
noncomputable def T_r13_Next : P_r13_Next → Tr U ((Int × Int) ⊕ P_r13_Next)
  | .b0 a0 a1 a2 => .br (a0.Algorithm == (2 : Int)) (
    .bind 3 (m_r13_Mix a0.Map a1 a0.Access) (fun (x1 : Int) => 
      .bind 30 (m_r13_Ident a0.Access) (fun (x2 : Int) => 
        .bind 30 (m_r13_Random a1 x2) (fun (x3 : Int) => 
          .leaf (.inl (x1, (Int.tmod (w64 (x3)) (37 : Int)))))))) (
    .bind 3 (m_r13_Step a2 a0.Hop) (fun (x4 : Int) => 
      .bind 3 (m_r12_Remap a0.Map x4) (fun (x5 : Int) => 
        .leaf (.inl (x5, x4)))))
noncomputable def m_r13_Next (a0 : api_ConnParams) (a1 : Int) (a2 : Int) : Option (Int × Int) := flow T_r13_Next (.b0 a0 a1 a2)
noncomputable def M_r13_Next : Mod U := { ts := [28, 30, 3], rt := 104, fn := fun x => m_r13_Next x.1 x.2.1 x.2.2.1, ok := by decide }
noncomputable def A_r13_Next : Nat → Option (List Nat)
  | _ => none
noncomputable def mods_r13_Next : FuncId → Option (Mod U)
  | 138 => some M_r13_Mix
  | 139 => some M_r13_Random
  | 140 => some M_r13_Ident
  | 141 => some M_r13_Step
  | 142 => some M_r12_Remap
  | _ => none
noncomputable def c_r13_Next : Code := bodyOf Tryz.f54
noncomputable def sp_r13_Next : P_r13_Next → Spot U
  | .b0 a0 a1 a2 => ⟨c_r13_Next, [], entryS [28, 30, 3] (a0, a1, a2, ()) 34, false⟩
theorem blk_r13_Next : ∀ p, Le.runT (EV Tryz.prog gl 54 mods_r13_Next noH) (mdlOf mods_r13_Next noH) A_r13_Next 54 Tryz.f54 0 (doneP (EV Tryz.prog gl 54 mods_r13_Next noH) Tryz.f54) 1000 (.run (sp_r13_Next p).c) (sp_r13_Next p).K (sp_r13_Next p).st (sp_r13_Next p).sk = (T_r13_Next p).map (leafOf (outP (U := U) 104) sp_r13_Next)
  | .b0 a0 a1 a2 => by kernel_rfl
theorem ok_r13_Next : FnOK Tryz.prog B0 54 M_r13_Next := by
  refine fn_flow rfl (univ_ok _ rfl) mix_ok (fn := Tryz.f54) (c := c_r13_Next) (mods := mods_r13_Next) (hmods := noH) ?_ (fun g k m h => by cases h) Tryz.func54 (by kernel_rfl) (by kernel_rfl) (by kernel_rfl) M_r13_Next T_r13_Next sp_r13_Next blk_r13_Next (fun x => .b0 x.1 x.2.1 x.2.2.1) (fun x => rfl) (fun x => rfl)
  intro g m h
  unfold mods_r13_Next at h
  split at h <;> cases h
  · exact ok_r13_Mix
  · exact ok_r13_Random
  · exact ok_r13_Ident
  · exact ok_r13_Step
  · exact ok_r12_Remap

/-! wireless/wirelessref30.Channel -/
inductive P_r30_Channel where
  | b0 (a0 : api_Link)
noncomputable def T_r30_Channel : P_r30_Channel → Tr U (Int ⊕ P_r30_Channel)
  | .b0 a0 => .bind 104 (m_r13_Next a0.Params a0.Event a0.Last) (fun (x1 : Int × Int) => 
    .leaf (.inl x1.1))
noncomputable def m_r30_Channel (a0 : api_Link) : Option Int := flow T_r30_Channel (.b0 a0)
noncomputable def M_r30_Channel : Mod U := { ts := [44], rt := 3, fn := fun x => m_r30_Channel x.1, ok := by decide }
noncomputable def A_r30_Channel : Nat → Option (List Nat)
  | _ => none
noncomputable def mods_r30_Channel : FuncId → Option (Mod U)
  | 54 => some M_r13_Next
  | _ => none
noncomputable def c_r30_Channel : Code := bodyOf Tryz.f16
noncomputable def sp_r30_Channel : P_r30_Channel → Spot U
  | .b0 a0 => ⟨c_r30_Channel, [], entryS [44] (a0, ()) 16, false⟩
theorem blk_r30_Channel : ∀ p, Le.runT (EV Tryz.prog gl 16 mods_r30_Channel noH) (mdlOf mods_r30_Channel noH) A_r30_Channel 16 Tryz.f16 0 (doneP (EV Tryz.prog gl 16 mods_r30_Channel noH) Tryz.f16) 1000 (.run (sp_r30_Channel p).c) (sp_r30_Channel p).K (sp_r30_Channel p).st (sp_r30_Channel p).sk = (T_r30_Channel p).map (leafOf (outP (U := U) 3) sp_r30_Channel)
  | .b0 a0 => by kernel_rfl
theorem ok_r30_Channel : FnOK Tryz.prog B0 16 M_r30_Channel := by
  refine fn_flow rfl (univ_ok _ rfl) mix_ok (fn := Tryz.f16) (c := c_r30_Channel) (mods := mods_r30_Channel) (hmods := noH) ?_ (fun g k m h => by cases h) Tryz.func16 (by kernel_rfl) (by kernel_rfl) (by kernel_rfl) M_r30_Channel T_r30_Channel sp_r30_Channel blk_r30_Channel (fun x => .b0 x.1) (fun x => rfl) (fun x => rfl)
  intro g m h
  unfold mods_r30_Channel at h
  split at h <;> cases h
  · exact ok_r13_Next

/-! wireless/clock.limit -/
inductive P_clock_limit where
  | b0 (a0 : Int) (a1 : Int) (a2 : Int)
noncomputable def T_clock_limit : P_clock_limit → Tr U (Int ⊕ P_clock_limit)
  | .b0 a0 a1 a2 => .leaf (.inl (if a2 < (if a1 > a0 then a1 else a0) then a2 else (if a1 > a0 then a1 else a0)))
noncomputable def m_clock_limit (a0 : Int) (a1 : Int) (a2 : Int) : Option Int := flow T_clock_limit (.b0 a0 a1 a2)
noncomputable def M_clock_limit : Mod U := { ts := [3, 3, 3], rt := 3, fn := fun x => m_clock_limit x.1 x.2.1 x.2.2.1, ok := by decide }
noncomputable def A_clock_limit : Nat → Option (List Nat)
  | _ => none
noncomputable def mods_clock_limit : FuncId → Option (Mod U)
  | _ => none
noncomputable def c_clock_limit : Code := bodyOf Tryz.f143
noncomputable def sp_clock_limit : P_clock_limit → Spot U
  | .b0 a0 a1 a2 => ⟨c_clock_limit, [], entryS [3, 3, 3] (a0, a1, a2, ()) 12, false⟩
theorem blk_clock_limit : ∀ p, Le.runT (EV Tryz.prog gl 143 mods_clock_limit noH) (mdlOf mods_clock_limit noH) A_clock_limit 143 Tryz.f143 0 (doneP (EV Tryz.prog gl 143 mods_clock_limit noH) Tryz.f143) 1000 (.run (sp_clock_limit p).c) (sp_clock_limit p).K (sp_clock_limit p).st (sp_clock_limit p).sk = (T_clock_limit p).map (leafOf (outP (U := U) 3) sp_clock_limit)
  | .b0 a0 a1 a2 => by kernel_rfl
theorem ok_clock_limit : FnOK Tryz.prog B0 143 M_clock_limit := by
  refine fn_flow rfl (univ_ok _ rfl) mix_ok (fn := Tryz.f143) (c := c_clock_limit) (mods := mods_clock_limit) (hmods := noH) ?_ (fun g k m h => by cases h) Tryz.func143 (by kernel_rfl) (by kernel_rfl) (by kernel_rfl) M_clock_limit T_clock_limit sp_clock_limit blk_clock_limit (fun x => .b0 x.1 x.2.1 x.2.2.1) (fun x => rfl) (fun x => rfl)
  intro g m h
  cases h

end Go.Proofs.YtjodhcdmhobmoaaGreatDoor
