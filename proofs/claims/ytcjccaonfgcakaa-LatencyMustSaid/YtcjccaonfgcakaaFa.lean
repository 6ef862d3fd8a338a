/-
  Functions of the program as functions of Lean (printed by a program of mine).
-/
import Derived.Test.YtcjccaonfgcakaaUn
namespace Go.Proofs.Ytcjccaonfgcakaa
open Go Go.Proofs.Ytcjccaonfgcakaa.Le
set_option linter.unusedVariables false
set_option maxRecDepth 100000
/-! wireless/latency.New -/
inductive P27 where
  | b0 (a0 : Int)
noncomputable def T27 : P27 → Tr U (api_Listening ⊕ P27)
  | .b0 a0 => .leaf (.inl (⟨(if (499 : Int) < (if (0 : Int) > a0 then (0 : Int) else a0) then (499 : Int) else (if (0 : Int) > a0 then (0 : Int) else a0)), (0 : Int), true⟩ : api_Listening))
noncomputable def m27 (a0 : Int) : Option api_Listening := flow T27 (.b0 a0)
noncomputable def M27 : Mod U := { ts := [3], rt := 31, fn := fun x => m27 x.1, ok := by decide }
noncomputable def A27 : Nat → Option (List Nat)
  | _ => none
noncomputable def mods27 : FuncId → Option (Mod U)
  | _ => none
noncomputable def c27 : Code := bodyOf Try.f27
noncomputable def sp27 : P27 → Spot U
  | .b0 a0 => ⟨c27, [], entryS [3] (a0, ()) 7, false⟩
theorem blk27 : ∀ p, Le.runT (EV Try.prog gl 27 mods27) (mdlOf mods27) A27 27 Try.f27 1000 (.run (sp27 p).c) (sp27 p).K (sp27 p).st (sp27 p).sk = (T27 p).map (leafOf (rt := 31) sp27)
  | .b0 a0 => by kernel_rfl
theorem ok27 : FnOK Try.prog B0 27 M27 := by
  refine fn_flow rfl (univ_ok _ rfl) mix_ok (fn := Try.f27) (c := c27) (mods := mods27) ?_ Try.func27 (by kernel_rfl) (by kernel_rfl) (by kernel_rfl) M27 T27 sp27 blk27 (fun x => .b0 x.1) (fun x => rfl) (fun x => rfl)
  intro g m h
  cases h

/-! wireless/wirelessref25.New -/
inductive P28 where
  | b0 (a0 : Int)
noncomputable def T28 : P28 → Tr U (api_Listening ⊕ P28)
  | .b0 a0 => .leaf (.inl (⟨(if (if (499 : Int) < a0 then (499 : Int) else a0) > (0 : Int) then (if (499 : Int) < a0 then (499 : Int) else a0) else (0 : Int)), (0 : Int), true⟩ : api_Listening))
noncomputable def m28 (a0 : Int) : Option api_Listening := flow T28 (.b0 a0)
noncomputable def M28 : Mod U := { ts := [3], rt := 31, fn := fun x => m28 x.1, ok := by decide }
noncomputable def A28 : Nat → Option (List Nat)
  | _ => none
noncomputable def mods28 : FuncId → Option (Mod U)
  | _ => none
noncomputable def c28 : Code := bodyOf Try.f28
noncomputable def sp28 : P28 → Spot U
  | .b0 a0 => ⟨c28, [], entryS [3] (a0, ()) 7, false⟩
theorem blk28 : ∀ p, Le.runT (EV Try.prog gl 28 mods28) (mdlOf mods28) A28 28 Try.f28 1000 (.run (sp28 p).c) (sp28 p).K (sp28 p).st (sp28 p).sk = (T28 p).map (leafOf (rt := 31) sp28)
  | .b0 a0 => by kernel_rfl
theorem ok28 : FnOK Try.prog B0 28 M28 := by
  refine fn_flow rfl (univ_ok _ rfl) mix_ok (fn := Try.f28) (c := c28) (mods := mods28) ?_ Try.func28 (by kernel_rfl) (by kernel_rfl) (by kernel_rfl) M28 T28 sp28 blk28 (fun x => .b0 x.1) (fun x => rfl) (fun x => rfl)
  intro g m h
  cases h

/-! wireless/latency.Set -/
inductive P29 where
  | b0 (a0 : api_Listening) (a1 : Int)
noncomputable def T29 : P29 → Tr U (api_Listening ⊕ P29)
  | .b0 a0 a1 => .bind 31 (m27 a1) (fun (x1 : api_Listening) => 
    .leaf (.inl x1))
noncomputable def m29 (a0 : api_Listening) (a1 : Int) : Option api_Listening := flow T29 (.b0 a0 a1)
noncomputable def M29 : Mod U := { ts := [31, 3], rt := 31, fn := fun x => m29 x.1 x.2.1, ok := by decide }
noncomputable def A29 : Nat → Option (List Nat)
  | _ => none
noncomputable def mods29 : FuncId → Option (Mod U)
  | 27 => some M27
  | _ => none
noncomputable def c29 : Code := bodyOf Try.f29
noncomputable def sp29 : P29 → Spot U
  | .b0 a0 a1 => ⟨c29, [], entryS [31, 3] (a0, a1, ()) 7, false⟩
theorem blk29 : ∀ p, Le.runT (EV Try.prog gl 29 mods29) (mdlOf mods29) A29 29 Try.f29 1000 (.run (sp29 p).c) (sp29 p).K (sp29 p).st (sp29 p).sk = (T29 p).map (leafOf (rt := 31) sp29)
  | .b0 a0 a1 => by kernel_rfl
theorem ok29 : FnOK Try.prog B0 29 M29 := by
  refine fn_flow rfl (univ_ok _ rfl) mix_ok (fn := Try.f29) (c := c29) (mods := mods29) ?_ Try.func29 (by kernel_rfl) (by kernel_rfl) (by kernel_rfl) M29 T29 sp29 blk29 (fun x => .b0 x.1 x.2.1) (fun x => rfl) (fun x => rfl)
  intro g m h
  unfold mods29 at h
  split at h <;> cases h
  · exact ok27

/-! wireless/wirelessref25.Set -/
inductive P30 where
  | b0 (a0 : api_Listening) (a1 : Int)
noncomputable def T30 : P30 → Tr U (api_Listening ⊕ P30)
  | .b0 a0 a1 => .bind 31 (m28 a1) (fun (x1 : api_Listening) => 
    .leaf (.inl x1))
noncomputable def m30 (a0 : api_Listening) (a1 : Int) : Option api_Listening := flow T30 (.b0 a0 a1)
noncomputable def M30 : Mod U := { ts := [31, 3], rt := 31, fn := fun x => m30 x.1 x.2.1, ok := by decide }
noncomputable def A30 : Nat → Option (List Nat)
  | _ => none
noncomputable def mods30 : FuncId → Option (Mod U)
  | 28 => some M28
  | _ => none
noncomputable def c30 : Code := bodyOf Try.f30
noncomputable def sp30 : P30 → Spot U
  | .b0 a0 a1 => ⟨c30, [], entryS [31, 3] (a0, a1, ()) 7, false⟩
theorem blk30 : ∀ p, Le.runT (EV Try.prog gl 30 mods30) (mdlOf mods30) A30 30 Try.f30 1000 (.run (sp30 p).c) (sp30 p).K (sp30 p).st (sp30 p).sk = (T30 p).map (leafOf (rt := 31) sp30)
  | .b0 a0 a1 => by kernel_rfl
theorem ok30 : FnOK Try.prog B0 30 M30 := by
  refine fn_flow rfl (univ_ok _ rfl) mix_ok (fn := Try.f30) (c := c30) (mods := mods30) ?_ Try.func30 (by kernel_rfl) (by kernel_rfl) (by kernel_rfl) M30 T30 sp30 blk30 (fun x => .b0 x.1 x.2.1) (fun x => rfl) (fun x => rfl)
  intro g m h
  unfold mods30 at h
  split at h <;> cases h
  · exact ok28

/-! wireless/latency.Must -/
inductive P31 where
  | b0 (a0 : api_Listening) (a1 : Bool)
noncomputable def T31 : P31 → Tr U (Bool ⊕ P31)
  | .b0 a0 a1 => .br a0.Full (
    .leaf (.inl true)) (
    .br a1 (
      .leaf (.inl true)) (
      .br (decide (a0.Skipped ≥ a0.Latency)) (
        .leaf (.inl true)) (
        .leaf (.inl false))))
noncomputable def m31 (a0 : api_Listening) (a1 : Bool) : Option Bool := flow T31 (.b0 a0 a1)
noncomputable def M31 : Mod U := { ts := [31, 4], rt := 4, fn := fun x => m31 x.1 x.2.1, ok := by decide }
noncomputable def A31 : Nat → Option (List Nat)
  | _ => none
noncomputable def mods31 : FuncId → Option (Mod U)
  | _ => none
noncomputable def c31 : Code := bodyOf Try.f31
noncomputable def sp31 : P31 → Spot U
  | .b0 a0 a1 => ⟨c31, [], entryS [31, 4] (a0, a1, ()) 16, false⟩
theorem blk31 : ∀ p, Le.runT (EV Try.prog gl 31 mods31) (mdlOf mods31) A31 31 Try.f31 1000 (.run (sp31 p).c) (sp31 p).K (sp31 p).st (sp31 p).sk = (T31 p).map (leafOf (rt := 4) sp31)
  | .b0 a0 a1 => by kernel_rfl
theorem ok31 : FnOK Try.prog B0 31 M31 := by
  refine fn_flow rfl (univ_ok _ rfl) mix_ok (fn := Try.f31) (c := c31) (mods := mods31) ?_ Try.func31 (by kernel_rfl) (by kernel_rfl) (by kernel_rfl) M31 T31 sp31 blk31 (fun x => .b0 x.1 x.2.1) (fun x => rfl) (fun x => rfl)
  intro g m h
  cases h

/-! wireless/wirelessref25.Must -/
inductive P32 where
  | b0 (a0 : api_Listening) (a1 : Bool)
noncomputable def T32 : P32 → Tr U (Bool ⊕ P32)
  | .b0 a0 a1 => .br a0.Full (
    .leaf (.inl true)) (
    .br a1 (
      .leaf (.inl true)) (
      .leaf (.inl (decide (a0.Skipped ≥ a0.Latency)))))
noncomputable def m32 (a0 : api_Listening) (a1 : Bool) : Option Bool := flow T32 (.b0 a0 a1)
noncomputable def M32 : Mod U := { ts := [31, 4], rt := 4, fn := fun x => m32 x.1 x.2.1, ok := by decide }
noncomputable def A32 : Nat → Option (List Nat)
  | _ => none
noncomputable def mods32 : FuncId → Option (Mod U)
  | _ => none
noncomputable def c32 : Code := bodyOf Try.f32
noncomputable def sp32 : P32 → Spot U
  | .b0 a0 a1 => ⟨c32, [], entryS [31, 4] (a0, a1, ()) 17, false⟩
theorem blk32 : ∀ p, Le.runT (EV Try.prog gl 32 mods32) (mdlOf mods32) A32 32 Try.f32 1000 (.run (sp32 p).c) (sp32 p).K (sp32 p).st (sp32 p).sk = (T32 p).map (leafOf (rt := 4) sp32)
  | .b0 a0 a1 => by kernel_rfl
theorem ok32 : FnOK Try.prog B0 32 M32 := by
  refine fn_flow rfl (univ_ok _ rfl) mix_ok (fn := Try.f32) (c := c32) (mods := mods32) ?_ Try.func32 (by kernel_rfl) (by kernel_rfl) (by kernel_rfl) M32 T32 sp32 blk32 (fun x => .b0 x.1 x.2.1) (fun x => rfl) (fun x => rfl)
  intro g m h
  cases h

/-! wireless/latency.Skip -/
inductive P33 where
  | b0 (a0 : api_Listening)
noncomputable def T33 : P33 → Tr U ((api_Listening × Int) ⊕ P33)
  | .b0 a0 => .bind 4 (m31 a0 false) (fun (x1 : Bool) => 
    .br x1 (
      .leaf (.inl (a0, (9 : Int)))) (
      .leaf (.inl ((⟨a0.Latency, (w64 (a0.Skipped + (1 : Int))), a0.Full⟩ : api_Listening), (0 : Int)))))
noncomputable def m33 (a0 : api_Listening) : Option (api_Listening × Int) := flow T33 (.b0 a0)
noncomputable def M33 : Mod U := { ts := [31], rt := 37, fn := fun x => m33 x.1, ok := by decide }
noncomputable def A33 : Nat → Option (List Nat)
  | _ => none
noncomputable def mods33 : FuncId → Option (Mod U)
  | 31 => some M31
  | _ => none
noncomputable def c33 : Code := bodyOf Try.f33
noncomputable def sp33 : P33 → Spot U
  | .b0 a0 => ⟨c33, [], entryS [31] (a0, ()) 12, false⟩
theorem blk33 : ∀ p, Le.runT (EV Try.prog gl 33 mods33) (mdlOf mods33) A33 33 Try.f33 1000 (.run (sp33 p).c) (sp33 p).K (sp33 p).st (sp33 p).sk = (T33 p).map (leafOf (rt := 37) sp33)
  | .b0 a0 => by kernel_rfl
theorem ok33 : FnOK Try.prog B0 33 M33 := by
  refine fn_flow rfl (univ_ok _ rfl) mix_ok (fn := Try.f33) (c := c33) (mods := mods33) ?_ Try.func33 (by kernel_rfl) (by kernel_rfl) (by kernel_rfl) M33 T33 sp33 blk33 (fun x => .b0 x.1) (fun x => rfl) (fun x => rfl)
  intro g m h
  unfold mods33 at h
  split at h <;> cases h
  · exact ok31

/-! wireless/wirelessref25.Skip -/
inductive P34 where
  | b0 (a0 : api_Listening)
noncomputable def T34 : P34 → Tr U ((api_Listening × Int) ⊕ P34)
  | .b0 a0 => .bind 4 (m32 a0 false) (fun (x1 : Bool) => 
    .br x1 (
      .leaf (.inl (a0, (9 : Int)))) (
      .leaf (.inl ((⟨a0.Latency, (w64 (a0.Skipped + (1 : Int))), a0.Full⟩ : api_Listening), (0 : Int)))))
noncomputable def m34 (a0 : api_Listening) : Option (api_Listening × Int) := flow T34 (.b0 a0)
noncomputable def M34 : Mod U := { ts := [31], rt := 37, fn := fun x => m34 x.1, ok := by decide }
noncomputable def A34 : Nat → Option (List Nat)
  | _ => none
noncomputable def mods34 : FuncId → Option (Mod U)
  | 32 => some M32
  | _ => none
noncomputable def c34 : Code := bodyOf Try.f34
noncomputable def sp34 : P34 → Spot U
  | .b0 a0 => ⟨c34, [], entryS [31] (a0, ()) 12, false⟩
theorem blk34 : ∀ p, Le.runT (EV Try.prog gl 34 mods34) (mdlOf mods34) A34 34 Try.f34 1000 (.run (sp34 p).c) (sp34 p).K (sp34 p).st (sp34 p).sk = (T34 p).map (leafOf (rt := 37) sp34)
  | .b0 a0 => by kernel_rfl
theorem ok34 : FnOK Try.prog B0 34 M34 := by
  refine fn_flow rfl (univ_ok _ rfl) mix_ok (fn := Try.f34) (c := c34) (mods := mods34) ?_ Try.func34 (by kernel_rfl) (by kernel_rfl) (by kernel_rfl) M34 T34 sp34 blk34 (fun x => .b0 x.1) (fun x => rfl) (fun x => rfl)
  intro g m h
  unfold mods34 at h
  split at h <;> cases h
  · exact ok32

/-! wireless/latency.Attend -/
inductive P35 where
  | b0 (a0 : api_Listening) (a1 : Bool)
noncomputable def T35 : P35 → Tr U (api_Listening ⊕ P35)
  | .b0 a0 a1 => .br a0.Full (
    .leaf (.inl (⟨a0.Latency, (0 : Int), (!a1)⟩ : api_Listening))) (
    .leaf (.inl (⟨a0.Latency, (0 : Int), false⟩ : api_Listening)))
noncomputable def m35 (a0 : api_Listening) (a1 : Bool) : Option api_Listening := flow T35 (.b0 a0 a1)
noncomputable def M35 : Mod U := { ts := [31, 4], rt := 31, fn := fun x => m35 x.1 x.2.1, ok := by decide }
noncomputable def A35 : Nat → Option (List Nat)
  | _ => none
noncomputable def mods35 : FuncId → Option (Mod U)
  | _ => none
noncomputable def c35 : Code := bodyOf Try.f35
noncomputable def sp35 : P35 → Spot U
  | .b0 a0 a1 => ⟨c35, [], entryS [31, 4] (a0, a1, ()) 14, false⟩
theorem blk35 : ∀ p, Le.runT (EV Try.prog gl 35 mods35) (mdlOf mods35) A35 35 Try.f35 1000 (.run (sp35 p).c) (sp35 p).K (sp35 p).st (sp35 p).sk = (T35 p).map (leafOf (rt := 31) sp35)
  | .b0 a0 a1 => by kernel_rfl
theorem ok35 : FnOK Try.prog B0 35 M35 := by
  refine fn_flow rfl (univ_ok _ rfl) mix_ok (fn := Try.f35) (c := c35) (mods := mods35) ?_ Try.func35 (by kernel_rfl) (by kernel_rfl) (by kernel_rfl) M35 T35 sp35 blk35 (fun x => .b0 x.1 x.2.1) (fun x => rfl) (fun x => rfl)
  intro g m h
  cases h

/-! wireless/wirelessref25.Attend -/
inductive P36 where
  | b0 (a0 : api_Listening) (a1 : Bool)
noncomputable def T36 : P36 → Tr U (api_Listening ⊕ P36)
  | .b0 a0 a1 => .br a1 (
    .leaf (.inl (⟨a0.Latency, (0 : Int), false⟩ : api_Listening))) (
    .leaf (.inl (⟨a0.Latency, (0 : Int), a0.Full⟩ : api_Listening)))
noncomputable def m36 (a0 : api_Listening) (a1 : Bool) : Option api_Listening := flow T36 (.b0 a0 a1)
noncomputable def M36 : Mod U := { ts := [31, 4], rt := 31, fn := fun x => m36 x.1 x.2.1, ok := by decide }
noncomputable def A36 : Nat → Option (List Nat)
  | _ => none
noncomputable def mods36 : FuncId → Option (Mod U)
  | _ => none
noncomputable def c36 : Code := bodyOf Try.f36
noncomputable def sp36 : P36 → Spot U
  | .b0 a0 a1 => ⟨c36, [], entryS [31, 4] (a0, a1, ()) 9, false⟩
theorem blk36 : ∀ p, Le.runT (EV Try.prog gl 36 mods36) (mdlOf mods36) A36 36 Try.f36 1000 (.run (sp36 p).c) (sp36 p).K (sp36 p).st (sp36 p).sk = (T36 p).map (leafOf (rt := 31) sp36)
  | .b0 a0 a1 => by kernel_rfl
theorem ok36 : FnOK Try.prog B0 36 M36 := by
  refine fn_flow rfl (univ_ok _ rfl) mix_ok (fn := Try.f36) (c := c36) (mods := mods36) ?_ Try.func36 (by kernel_rfl) (by kernel_rfl) (by kernel_rfl) M36 T36 sp36 blk36 (fun x => .b0 x.1 x.2.1) (fun x => rfl) (fun x => rfl)
  intro g m h
  cases h

/-! wireless/wirelesslaw25.lives -/
noncomputable def m26 : Option Bool := some true
noncomputable def M26 : Mod U := { ts := [], rt := 4, fn := fun _ => m26, ok := by decide }
theorem ck26 : ecCheck Try.prog gl [26, 27, 29, 31, 33, 35] (fun _ => true) = true := by kernel_rfl
theorem ok26 : FnOK Try.prog B0 26 M26 := closed_ok rfl mix_ok ck26 (by decide) rfl Try.func26 (by kernel_rfl) (n := 60) (m := M26) rfl (a := true) (fun _ => rfl) (by kernel_rfl)

/-! wireless/wirelesslaw25.LatencySets -/
inductive P10 where
  | b0 (a0 : api_Listening) (a1 : Int)
noncomputable def T10 : P10 → Tr U (Bool ⊕ P10)
  | .b0 a0 a1 => .bind 4 (m26) (fun (x1 : Bool) => 
    .br x1 (
      .bind 31 (m27 a1) (fun (x2 : api_Listening) => 
        .bind 31 (m28 a1) (fun (x3 : api_Listening) => 
          .br ((x2.Latency == x3.Latency) && ((x2.Skipped == x3.Skipped) && ((x2.Full == x3.Full) && true))) (
            .bind 31 (m29 a0 a1) (fun (x4 : api_Listening) => 
              .bind 31 (m30 a0 a1) (fun (x5 : api_Listening) => 
                .leaf (.inl ((x4.Latency == x5.Latency) && ((x4.Skipped == x5.Skipped) && ((x4.Full == x5.Full) && true))))))) (
            .leaf (.inl false))))) (
      .leaf (.inl false)))
noncomputable def m10 (a0 : api_Listening) (a1 : Int) : Option Bool := flow T10 (.b0 a0 a1)
noncomputable def M10 : Mod U := { ts := [31, 3], rt := 4, fn := fun x => m10 x.1 x.2.1, ok := by decide }
noncomputable def A10 : Nat → Option (List Nat)
  | _ => none
noncomputable def mods10 : FuncId → Option (Mod U)
  | 26 => some M26
  | 27 => some M27
  | 28 => some M28
  | 29 => some M29
  | 30 => some M30
  | _ => none
noncomputable def c10 : Code := bodyOf Try.f10
noncomputable def sp10 : P10 → Spot U
  | .b0 a0 a1 => ⟨c10, [], entryS [31, 3] (a0, a1, ()) 22, false⟩
theorem blk10 : ∀ p, Le.runT (EV Try.prog gl 10 mods10) (mdlOf mods10) A10 10 Try.f10 1000 (.run (sp10 p).c) (sp10 p).K (sp10 p).st (sp10 p).sk = (T10 p).map (leafOf (rt := 4) sp10)
  | .b0 a0 a1 => by kernel_rfl
theorem ok10 : FnOK Try.prog B0 10 M10 := by
  refine fn_flow rfl (univ_ok _ rfl) mix_ok (fn := Try.f10) (c := c10) (mods := mods10) ?_ Try.func10 (by kernel_rfl) (by kernel_rfl) (by kernel_rfl) M10 T10 sp10 blk10 (fun x => .b0 x.1 x.2.1) (fun x => rfl) (fun x => rfl)
  intro g m h
  unfold mods10 at h
  split at h <;> cases h
  · exact ok26
  · exact ok27
  · exact ok28
  · exact ok29
  · exact ok30

/-! wireless/wirelesslaw25.LatencyMust -/
inductive P11 where
  | b0 (a0 : api_Listening) (a1 : Bool)
noncomputable def T11 : P11 → Tr U (Bool ⊕ P11)
  | .b0 a0 a1 => .bind 4 (m26) (fun (x1 : Bool) => 
    .br x1 (
      .bind 4 (m31 a0 a1) (fun (x2 : Bool) => 
        .bind 4 (m32 a0 a1) (fun (x3 : Bool) => 
          .leaf (.inl (x2 == x3))))) (
      .leaf (.inl false)))
noncomputable def m11 (a0 : api_Listening) (a1 : Bool) : Option Bool := flow T11 (.b0 a0 a1)
noncomputable def M11 : Mod U := { ts := [31, 4], rt := 4, fn := fun x => m11 x.1 x.2.1, ok := by decide }
noncomputable def A11 : Nat → Option (List Nat)
  | _ => none
noncomputable def mods11 : FuncId → Option (Mod U)
  | 26 => some M26
  | 31 => some M31
  | 32 => some M32
  | _ => none
noncomputable def c11 : Code := bodyOf Try.f11
noncomputable def sp11 : P11 → Spot U
  | .b0 a0 a1 => ⟨c11, [], entryS [31, 4] (a0, a1, ()) 15, false⟩
theorem blk11 : ∀ p, Le.runT (EV Try.prog gl 11 mods11) (mdlOf mods11) A11 11 Try.f11 1000 (.run (sp11 p).c) (sp11 p).K (sp11 p).st (sp11 p).sk = (T11 p).map (leafOf (rt := 4) sp11)
  | .b0 a0 a1 => by kernel_rfl
theorem ok11 : FnOK Try.prog B0 11 M11 := by
  refine fn_flow rfl (univ_ok _ rfl) mix_ok (fn := Try.f11) (c := c11) (mods := mods11) ?_ Try.func11 (by kernel_rfl) (by kernel_rfl) (by kernel_rfl) M11 T11 sp11 blk11 (fun x => .b0 x.1 x.2.1) (fun x => rfl) (fun x => rfl)
  intro g m h
  unfold mods11 at h
  split at h <;> cases h
  · exact ok26
  · exact ok31
  · exact ok32

/-! wireless/wirelesslaw25.LatencyMoves -/
inductive P12 where
  | b0 (a0 : api_Listening) (a1 : Bool)
noncomputable def T12 : P12 → Tr U (Bool ⊕ P12)
  | .b0 a0 a1 => .bind 37 (m33 a0) (fun (x1 : api_Listening × Int) => 
    .bind 37 (m34 a0) (fun (x2 : api_Listening × Int) => 
      .bind 4 (m26) (fun (x3 : Bool) => 
        .br x3 (
          .br ((x1.1.Latency == x2.1.Latency) && ((x1.1.Skipped == x2.1.Skipped) && ((x1.1.Full == x2.1.Full) && true))) (
            .br (x1.2 == x2.2) (
              .bind 31 (m35 a0 a1) (fun (x4 : api_Listening) => 
                .bind 31 (m36 a0 a1) (fun (x5 : api_Listening) => 
                  .leaf (.inl ((x4.Latency == x5.Latency) && ((x4.Skipped == x5.Skipped) && ((x4.Full == x5.Full) && true))))))) (
              .leaf (.inl false))) (
            .leaf (.inl false))) (
          .leaf (.inl false)))))
noncomputable def m12 (a0 : api_Listening) (a1 : Bool) : Option Bool := flow T12 (.b0 a0 a1)
noncomputable def M12 : Mod U := { ts := [31, 4], rt := 4, fn := fun x => m12 x.1 x.2.1, ok := by decide }
noncomputable def A12 : Nat → Option (List Nat)
  | _ => none
noncomputable def mods12 : FuncId → Option (Mod U)
  | 26 => some M26
  | 33 => some M33
  | 34 => some M34
  | 35 => some M35
  | 36 => some M36
  | _ => none
noncomputable def c12 : Code := bodyOf Try.f12
noncomputable def sp12 : P12 → Spot U
  | .b0 a0 a1 => ⟨c12, [], entryS [31, 4] (a0, a1, ()) 39, false⟩
theorem blk12 : ∀ p, Le.runT (EV Try.prog gl 12 mods12) (mdlOf mods12) A12 12 Try.f12 1000 (.run (sp12 p).c) (sp12 p).K (sp12 p).st (sp12 p).sk = (T12 p).map (leafOf (rt := 4) sp12)
  | .b0 a0 a1 => by kernel_rfl
theorem ok12 : FnOK Try.prog B0 12 M12 := by
  refine fn_flow rfl (univ_ok _ rfl) mix_ok (fn := Try.f12) (c := c12) (mods := mods12) ?_ Try.func12 (by kernel_rfl) (by kernel_rfl) (by kernel_rfl) M12 T12 sp12 blk12 (fun x => .b0 x.1 x.2.1) (fun x => rfl) (fun x => rfl)
  intro g m h
  unfold mods12 at h
  split at h <;> cases h
  · exact ok26
  · exact ok33
  · exact ok34
  · exact ok35
  · exact ok36

/-! wireless/wirelesslaw25.LatencyBound -/
inductive P13 where
  | b0 (a0 : Int) (a1 : List wirelesslaw25_Turn)
  | b1 (a0 : List wirelesslaw25_Turn) (a1 : Int) (a2 : Int) (a3 : Bool) (a4 : Int) (a5 : api_Listening)
  | b2 (a0 : List wirelesslaw25_Turn) (a1 : Int) (a2 : Int) (a3 : Bool) (a4 : Int) (a5 : Int) (a6 : api_Listening) (a7 : api_Listening)
  | b3 (a0 : List wirelesslaw25_Turn) (a1 : Int) (a2 : Int) (a3 : Bool) (a4 : Int) (a5 : api_Listening)
  | b4 (a0 : List wirelesslaw25_Turn) (a1 : Int) (a2 : Int) (a3 : Bool) (a4 : Int) (a5 : api_Listening) (a6 : api_Listening)
  | b5 (a0 : List wirelesslaw25_Turn) (a1 : Int) (a2 : Int) (a3 : Bool) (a4 : Int) (a5 : api_Listening)
noncomputable def T13 : P13 → Tr U (Bool ⊕ P13)
  | .b0 a0 a1 => .bind 4 (m26) (fun (x1 : Bool) => 
    .br (!x1) (
      .leaf (.inl false)) (
      .br (decide ((↑a1.length : Int) > (200 : Int))) (
        .leaf (.inl true)) (
        .bind 31 (m27 a0) (fun (x2 : api_Listening) => 
          .leaf (.inr (.b1 a1 (if (if (499 : Int) < a0 then (499 : Int) else a0) > (0 : Int) then (if (499 : Int) < a0 then (499 : Int) else a0) else (0 : Int)) (0 : Int) true (0 : Int) x2))))))
  | .b1 a0 a1 a2 a3 a4 a5 => .br (decide (a4 < (↑a0.length : Int))) (
    .chk (decide (0 ≤ a4 ∧ a4 < (↑a0.length : Int))) (
      .bind 42 (a0[(Int.toNat a4)]?) (fun (x1 : wirelesslaw25_Turn) => 
        .br (x1.Do == (0 : Int)) (
          .bind 37 (m33 a5) (fun (x2 : api_Listening × Int) => 
            .bind 4 (m31 a5 false) (fun (x3 : Bool) => 
              .br ((x2.2 == (0 : Int)) == x3) (
                .leaf (.inl false)) (
                .br (x2.2 != (0 : Int)) (
                  .br (x2.2 != (9 : Int)) (
                    .leaf (.inl false)) (
                    .br (!((x2.1.Latency == a5.Latency) && ((x2.1.Skipped == a5.Skipped) && ((x2.1.Full == a5.Full) && true)))) (
                      .leaf (.inl false)) (
                      .leaf (.inr (.b2 a0 a1 a2 a3 a4 x2.2 a5 x2.1))))) (
                  .leaf (.inr (.b2 a0 a1 a2 a3 a4 x2.2 a5 x2.1))))))) (
          .br (x1.Do == (1 : Int)) (
            .bind 31 (m35 a5 x1.Acked) (fun (x4 : api_Listening) => 
              .br a3 (
                .leaf (.inr (.b3 a0 a1 (0 : Int) (!x1.Acked) a4 x4))) (
                .leaf (.inr (.b3 a0 a1 (0 : Int) false a4 x4))))) (
            .br (x1.Do == (2 : Int)) (
              .bind 31 (m29 a5 x1.Latency) (fun (x5 : api_Listening) => 
                .leaf (.inr (.b3 a0 (if (if (499 : Int) < x1.Latency then (499 : Int) else x1.Latency) > (0 : Int) then (if (499 : Int) < x1.Latency then (499 : Int) else x1.Latency) else (0 : Int)) (0 : Int) true a4 x5)))) (
              .leaf (.inr (.b3 a0 a1 a2 a3 a4 a5)))))))) (
    .leaf (.inl true))
  | .b2 a0 a1 a2 a3 a4 a5 a6 a7 => .br (a5 == (0 : Int)) (
    .leaf (.inr (.b4 a0 a1 (w64 (a2 + (1 : Int))) a3 a4 a6 a7))) (
    .leaf (.inr (.b4 a0 a1 a2 a3 a4 a6 a7)))
  | .b3 a0 a1 a2 a3 a4 a5 => .br (decide (a2 > a1)) (
    .leaf (.inl false)) (
    .br a3 (
      .br (decide (a2 > (0 : Int))) (
        .leaf (.inl false)) (
        .leaf (.inr (.b5 a0 a1 a2 a3 a4 a5)))) (
      .leaf (.inr (.b5 a0 a1 a2 a3 a4 a5))))
  | .b4 a0 a1 a2 a3 a4 a5 a6 => .leaf (.inr (.b3 a0 a1 a2 a3 a4 a6))
  | .b5 a0 a1 a2 a3 a4 a5 => .leaf (.inr (.b1 a0 a1 a2 a3 (w64 (a4 + (1 : Int))) a5))
noncomputable def m13 (a0 : Int) (a1 : List wirelesslaw25_Turn) : Option Bool := flow T13 (.b0 a0 a1)
noncomputable def M13 : Mod U := { ts := [3, 40], rt := 4, fn := fun x => m13 x.1 x.2.1, ok := by decide }
noncomputable def A13 : Nat → Option (List Nat)
  | 8 => some [1, 5, 6, 7, 8, 9]
  | 16 => some [1, 5, 6, 7, 8, 9, 11, 12]
  | 25 => some [1, 5, 6, 7, 8, 9]
  | 18 => some [1, 5, 6, 7, 8, 9, 11]
  | 9 => some [1, 5, 6, 7, 8, 9]
  | _ => none
noncomputable def mods13 : FuncId → Option (Mod U)
  | 26 => some M26
  | 27 => some M27
  | 29 => some M29
  | 31 => some M31
  | 33 => some M33
  | 35 => some M35
  | _ => none
noncomputable def c13 : Code := bodyOf Try.f13
noncomputable def sp13 : P13 → Spot U
  | .b0 a0 a1 => ⟨c13, [], entryS [3, 40] (a0, a1, ()) 97, false⟩
  | .b1 a0 a1 a2 a3 a4 a5 => ⟨(nav c13 [1, 1, 1, 1, 1, 0, 1, 0, 0, 0, 0] []).1, (nav c13 [1, 1, 1, 1, 1, 0, 1, 0, 0, 0, 0] []).2, ⟨[.und, .sl 42 a0, .und, .und, .und, .ptr 0 0 0 1, .si .i64 a1, .si .i64 a2, .sb a3, .si .i64 a4, .und, .und, .und, .und, .und, .und, .und, .und, .und, .und, .und, .und, .und, .und, .und, .und, .und, .und, .und, .und, .und, .und, .und, .und, .und, .und, .und, .und, .und, .und, .und, .und, .und, .und, .und, .und, .und, .und, .und, .und, .und, .und, .und, .und, .und, .und, .und, .und, .und, .und, .und, .und, .und, .und, .und, .und, .und, .und, .und, .und, .und, .und, .und, .und, .und, .und, .und, .und, .und, .und, .und, .und, .und, .und, .und, .und, .und, .und, .und, .und, .und, .und, .und, .und, .und, .und, .und], [.var 31 3 (U.encS 31 a5)]⟩, true⟩
  | .b2 a0 a1 a2 a3 a4 a5 a6 a7 => ⟨(nav c13 [1, 1, 1, 1, 1, 0, 1, 0, 0, 1, 0, 0, 1, 0, 1, 0, 1, 0, 1, 1, 0, 0] []).1, (nav c13 [1, 1, 1, 1, 1, 0, 1, 0, 0, 1, 0, 0, 1, 0, 1, 0, 1, 0, 1, 1, 0, 0] []).2, ⟨[.und, .sl 42 a0, .und, .und, .und, .ptr 0 0 0 1, .si .i64 a1, .si .i64 a2, .sb a3, .si .i64 a4, .und, .ptr 1 0 0 1, .si .i64 a5, .und, .und, .und, .und, .und, .und, .und, .und, .und, .und, .und, .und, .und, .und, .und, .und, .und, .und, .und, .und, .und, .und, .und, .und, .und, .und, .und, .und, .und, .und, .und, .und, .und, .und, .und, .und, .und, .und, .und, .und, .und, .und, .und, .und, .und, .und, .und, .und, .und, .und, .und, .und, .und, .und, .und, .und, .und, .und, .und, .und, .und, .und, .und, .und, .und, .und, .und, .und, .und, .und, .und, .und, .und, .und, .und, .und, .und, .und, .und, .und, .und, .und, .und, .und], [.var 31 3 (U.encS 31 a6), .var 31 3 (U.encS 31 a7)]⟩, true⟩
  | .b3 a0 a1 a2 a3 a4 a5 => ⟨(nav c13 [1, 1, 1, 1, 1, 0, 1, 0, 0, 1, 0, 0, 1, 1, 0] []).1, (nav c13 [1, 1, 1, 1, 1, 0, 1, 0, 0, 1, 0, 0, 1, 1, 0] []).2, ⟨[.und, .sl 42 a0, .und, .und, .und, .ptr 0 0 0 1, .si .i64 a1, .si .i64 a2, .sb a3, .si .i64 a4, .und, .und, .und, .und, .und, .und, .und, .und, .und, .und, .und, .und, .und, .und, .und, .und, .und, .und, .und, .und, .und, .und, .und, .und, .und, .und, .und, .und, .und, .und, .und, .und, .und, .und, .und, .und, .und, .und, .und, .und, .und, .und, .und, .und, .und, .und, .und, .und, .und, .und, .und, .und, .und, .und, .und, .und, .und, .und, .und, .und, .und, .und, .und, .und, .und, .und, .und, .und, .und, .und, .und, .und, .und, .und, .und, .und, .und, .und, .und, .und, .und, .und, .und, .und, .und, .und, .und], [.var 31 3 (U.encS 31 a5)]⟩, true⟩
  | .b4 a0 a1 a2 a3 a4 a5 a6 => ⟨(nav c13 [1, 1, 1, 1, 1, 0, 1, 0, 0, 1, 0, 0, 1, 0, 1, 0, 1, 0, 1, 1, 1] []).1, (nav c13 [1, 1, 1, 1, 1, 0, 1, 0, 0, 1, 0, 0, 1, 0, 1, 0, 1, 0, 1, 1, 1] []).2, ⟨[.und, .sl 42 a0, .und, .und, .und, .ptr 0 0 0 1, .si .i64 a1, .si .i64 a2, .sb a3, .si .i64 a4, .und, .ptr 1 0 0 1, .und, .und, .und, .und, .und, .und, .und, .und, .und, .und, .und, .und, .und, .und, .und, .und, .und, .und, .und, .und, .und, .und, .und, .und, .und, .und, .und, .und, .und, .und, .und, .und, .und, .und, .und, .und, .und, .und, .und, .und, .und, .und, .und, .und, .und, .und, .und, .und, .und, .und, .und, .und, .und, .und, .und, .und, .und, .und, .und, .und, .und, .und, .und, .und, .und, .und, .und, .und, .und, .und, .und, .und, .und, .und, .und, .und, .und, .und, .und, .und, .und, .und, .und, .und, .und], [.var 31 3 (U.encS 31 a5), .var 31 3 (U.encS 31 a6)]⟩, true⟩
  | .b5 a0 a1 a2 a3 a4 a5 => ⟨(nav c13 [1, 1, 1, 1, 1, 0, 1, 0, 0, 1, 1] []).1, (nav c13 [1, 1, 1, 1, 1, 0, 1, 0, 0, 1, 1] []).2, ⟨[.und, .sl 42 a0, .und, .und, .und, .ptr 0 0 0 1, .si .i64 a1, .si .i64 a2, .sb a3, .si .i64 a4, .und, .und, .und, .und, .und, .und, .und, .und, .und, .und, .und, .und, .und, .und, .und, .und, .und, .und, .und, .und, .und, .und, .und, .und, .und, .und, .und, .und, .und, .und, .und, .und, .und, .und, .und, .und, .und, .und, .und, .und, .und, .und, .und, .und, .und, .und, .und, .und, .und, .und, .und, .und, .und, .und, .und, .und, .und, .und, .und, .und, .und, .und, .und, .und, .und, .und, .und, .und, .und, .und, .und, .und, .und, .und, .und, .und, .und, .und, .und, .und, .und, .und, .und, .und, .und, .und, .und], [.var 31 3 (U.encS 31 a5)]⟩, true⟩
theorem blk13 : ∀ p, Le.runT (EV Try.prog gl 13 mods13) (mdlOf mods13) A13 13 Try.f13 1000 (.run (sp13 p).c) (sp13 p).K (sp13 p).st (sp13 p).sk = (T13 p).map (leafOf (rt := 4) sp13)
  | .b0 a0 a1 => by kernel_rfl
  | .b1 a0 a1 a2 a3 a4 a5 => by kernel_rfl
  | .b2 a0 a1 a2 a3 a4 a5 a6 a7 => by kernel_rfl
  | .b3 a0 a1 a2 a3 a4 a5 => by kernel_rfl
  | .b4 a0 a1 a2 a3 a4 a5 a6 => by kernel_rfl
  | .b5 a0 a1 a2 a3 a4 a5 => by kernel_rfl
theorem ok13 : FnOK Try.prog B0 13 M13 := by
  refine fn_flow rfl (univ_ok _ rfl) mix_ok (fn := Try.f13) (c := c13) (mods := mods13) ?_ Try.func13 (by kernel_rfl) (by kernel_rfl) (by kernel_rfl) M13 T13 sp13 blk13 (fun x => .b0 x.1 x.2.1) (fun x => rfl) (fun x => rfl)
  intro g m h
  unfold mods13 at h
  split at h <;> cases h
  · exact ok26
  · exact ok27
  · exact ok29
  · exact ok31
  · exact ok33
  · exact ok35

/-! wireless/wirelesslaw25.LatencyUse -/
inductive P14 where
  | b0 (a0 : api_Listening) (a1 : Int)
  | b1 (a0 : Int) (a1 : Int) (a2 : Int) (a3 : api_Listening)
  | b2 (a0 : Int) (a1 : Int)
noncomputable def T14 : P14 → Tr U (Bool ⊕ P14)
  | .b0 a0 a1 => .bind 4 (m26) (fun (x1 : Bool) => 
    .br (!x1) (
      .leaf (.inl false)) (
      .bind 31 (m29 a0 a1) (fun (x2 : api_Listening) => 
        .bind 31 (m35 x2 true) (fun (x3 : api_Listening) => 
          .leaf (.inr (.b1 a1 (0 : Int) (0 : Int) x3))))))
  | .b1 a0 a1 a2 a3 => .br (decide (a2 < (500 : Int))) (
    .bind 37 (m33 a3) (fun (x1 : api_Listening × Int) => 
      .br (x1.2 != (0 : Int)) (
        .leaf (.inr (.b2 a0 a1))) (
        .leaf (.inr (.b1 a0 (w64 (a1 + (1 : Int))) (w64 (a2 + (1 : Int))) x1.1))))) (
    .leaf (.inr (.b2 a0 a1)))
  | .b2 a0 a1 => .leaf (.inl (a1 == (if (if (499 : Int) < a0 then (499 : Int) else a0) > (0 : Int) then (if (499 : Int) < a0 then (499 : Int) else a0) else (0 : Int))))
noncomputable def m14 (a0 : api_Listening) (a1 : Int) : Option Bool := flow T14 (.b0 a0 a1)
noncomputable def M14 : Mod U := { ts := [31, 3], rt := 4, fn := fun x => m14 x.1 x.2.1, ok := by decide }
noncomputable def A14 : Nat → Option (List Nat)
  | 6 => some [1, 5, 6, 7]
  | 12 => some [1, 6]
  | _ => none
noncomputable def mods14 : FuncId → Option (Mod U)
  | 26 => some M26
  | 29 => some M29
  | 33 => some M33
  | 35 => some M35
  | _ => none
noncomputable def c14 : Code := bodyOf Try.f14
noncomputable def sp14 : P14 → Spot U
  | .b0 a0 a1 => ⟨c14, [], entryS [31, 3] (a0, a1, ()) 35, false⟩
  | .b1 a0 a1 a2 a3 => ⟨(nav c14 [1, 1, 1, 1, 0, 1, 0, 0, 0, 0] []).1, (nav c14 [1, 1, 1, 1, 0, 1, 0, 0, 0, 0] []).2, ⟨[.und, .si .i64 a0, .und, .und, .und, .ptr 0 0 0 1, .si .i64 a1, .si .i64 a2, .und, .und, .und, .und, .und, .und, .und, .und, .und, .und, .und, .und, .und, .und, .und, .und, .und, .und, .und, .und, .und, .und, .und, .und, .und, .und, .und], [.var 31 3 (U.encS 31 a3)]⟩, true⟩
  | .b2 a0 a1 => ⟨(nav c14 [1, 1, 1, 1, 1, 0] []).1, (nav c14 [1, 1, 1, 1, 1, 0] []).2, ⟨[.und, .si .i64 a0, .und, .und, .und, .und, .si .i64 a1, .und, .und, .und, .und, .und, .und, .und, .und, .und, .und, .und, .und, .und, .und, .und, .und, .und, .und, .und, .und, .und, .und, .und, .und, .und, .und, .und, .und], []⟩, true⟩
theorem blk14 : ∀ p, Le.runT (EV Try.prog gl 14 mods14) (mdlOf mods14) A14 14 Try.f14 1000 (.run (sp14 p).c) (sp14 p).K (sp14 p).st (sp14 p).sk = (T14 p).map (leafOf (rt := 4) sp14)
  | .b0 a0 a1 => by kernel_rfl
  | .b1 a0 a1 a2 a3 => by kernel_rfl
  | .b2 a0 a1 => by kernel_rfl
theorem ok14 : FnOK Try.prog B0 14 M14 := by
  refine fn_flow rfl (univ_ok _ rfl) mix_ok (fn := Try.f14) (c := c14) (mods := mods14) ?_ Try.func14 (by kernel_rfl) (by kernel_rfl) (by kernel_rfl) M14 T14 sp14 blk14 (fun x => .b0 x.1 x.2.1) (fun x => rfl) (fun x => rfl)
  intro g m h
  unfold mods14 at h
  split at h <;> cases h
  · exact ok26
  · exact ok29
  · exact ok33
  · exact ok35

end Go.Proofs.Ytcjccaonfgcakaa
