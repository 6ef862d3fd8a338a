/-
  Functions of the program as functions of Lean (printed by a program of mine).
-/
import Derived.Test.YtjodhcdmhobmoaaGreatDoorFa3
namespace Go.Proofs.YtjodhcdmhobmoaaGreatDoor
open Go Go.Proofs.YtjodhcdmhobmoaaGreatDoor.Le
set_option linter.unusedVariables false
set_option maxRecDepth 100000
/-! wireless/wirelessref30.SamePacket -/
inductive P_r30_SamePacket where
  | b0 (a0 : api_Packet) (a1 : api_Packet)
noncomputable def T_r30_SamePacket : P_r30_SamePacket → Tr U (Bool ⊕ P_r30_SamePacket)
  | .b0 a0 a1 => .br (a0.LLID == a1.LLID) (
    .chk (okBytes U 5 a0.Payload) (
      .chk (okBytes U 5 a1.Payload) (
        .leaf (.inl ((strOf U 5 a0.Payload).toList == (strOf U 5 a1.Payload).toList))))) (
    .leaf (.inl false))
noncomputable def m_r30_SamePacket (a0 : api_Packet) (a1 : api_Packet) : Option Bool := flow T_r30_SamePacket (.b0 a0 a1)
noncomputable def M_r30_SamePacket : Mod U := { ts := [68, 68], rt := 4, fn := fun x => m_r30_SamePacket x.1 x.2.1, ok := by decide }
noncomputable def A_r30_SamePacket : Nat → Option (List Nat)
  | _ => none
noncomputable def mods_r30_SamePacket : FuncId → Option (Mod U)
  | _ => none
noncomputable def c_r30_SamePacket : Code := bodyOf Tryz.f26
noncomputable def sp_r30_SamePacket : P_r30_SamePacket → Spot U
  | .b0 a0 a1 => ⟨c_r30_SamePacket, [], entryS [68, 68] (a0, a1, ()) 19, false⟩
theorem blk_r30_SamePacket : ∀ p, Le.runT (EV Tryz.prog gl 26 mods_r30_SamePacket noH) (mdlOf mods_r30_SamePacket noH) A_r30_SamePacket 26 Tryz.f26 0 (doneP (EV Tryz.prog gl 26 mods_r30_SamePacket noH) Tryz.f26) 1000 (.run (sp_r30_SamePacket p).c) (sp_r30_SamePacket p).K (sp_r30_SamePacket p).st (sp_r30_SamePacket p).sk = (T_r30_SamePacket p).map (leafOf (outP (U := U) 4) sp_r30_SamePacket)
  | .b0 a0 a1 => by kernel_rfl
theorem ok_r30_SamePacket : FnOK Tryz.prog B0 26 M_r30_SamePacket := by
  refine fn_flow rfl (univ_ok _ rfl) mix_ok (fn := Tryz.f26) (c := c_r30_SamePacket) (mods := mods_r30_SamePacket) (hmods := noH) ?_ (fun g k m h => by cases h) Tryz.func26 (by kernel_rfl) (by kernel_rfl) (by kernel_rfl) M_r30_SamePacket T_r30_SamePacket sp_r30_SamePacket blk_r30_SamePacket (fun x => .b0 x.1 x.2.1) (fun x => rfl) (fun x => rfl)
  intro g m h
  cases h

/-! wireless/wirelessref30.SamePackets -/
inductive P_r30_SamePackets where
  | b0 (a0 : List api_Packet) (a1 : List api_Packet)
  | b1 (a0 : List api_Packet) (a1 : List api_Packet) (a2 : Int)
noncomputable def T_r30_SamePackets : P_r30_SamePackets → Tr U (Bool ⊕ P_r30_SamePackets)
  | .b0 a0 a1 => .br ((↑a0.length : Int) != (↑a1.length : Int)) (
    .leaf (.inl false)) (
    .leaf (.inr (.b1 a0 a1 (0 : Int))))
  | .b1 a0 a1 a2 => .br (decide (a2 < (↑a0.length : Int))) (
    .chk (decide (0 ≤ a2 ∧ a2 < (↑a0.length : Int))) (
      .bind 68 (a0[(Int.toNat a2)]?) (fun (x1 : api_Packet) => 
        .chk (decide (0 ≤ a2 ∧ a2 < (↑a1.length : Int))) (
          .bind 68 (a1[(Int.toNat a2)]?) (fun (x2 : api_Packet) => 
            .bind 4 (m_r30_SamePacket x1 x2) (fun (x3 : Bool) => 
              .br (!x3) (
                .leaf (.inl false)) (
                .leaf (.inr (.b1 a0 a1 (w64 (a2 + (1 : Int)))))))))))) (
    .leaf (.inl true))
noncomputable def m_r30_SamePackets (a0 : List api_Packet) (a1 : List api_Packet) : Option Bool := flow T_r30_SamePackets (.b0 a0 a1)
noncomputable def M_r30_SamePackets : Mod U := { ts := [31, 31], rt := 4, fn := fun x => m_r30_SamePackets x.1 x.2.1, ok := by decide }
noncomputable def A_r30_SamePackets : Nat → Option (List Nat)
  | 4 => some [0, 1, 5]
  | _ => none
noncomputable def mods_r30_SamePackets : FuncId → Option (Mod U)
  | 26 => some M_r30_SamePacket
  | _ => none
noncomputable def c_r30_SamePackets : Code := bodyOf Tryz.f49
noncomputable def sp_r30_SamePackets : P_r30_SamePackets → Spot U
  | .b0 a0 a1 => ⟨c_r30_SamePackets, [], entryS [31, 31] (a0, a1, ()) 27, false⟩
  | .b1 a0 a1 a2 => ⟨(nav c_r30_SamePackets [1, 1, 0, 1, 0, 0, 0, 0] []).1, (nav c_r30_SamePackets [1, 1, 0, 1, 0, 0, 0, 0] []).2, ⟨[.sl 68 a0, .sl 68 a1, .und, .und, .und, .si .i64 a2, .und, .und, .und, .und, .und, .und, .und, .und, .und, .und, .und, .und, .und, .und, .und, .und, .und, .und, .und, .und, .und], []⟩, true⟩
theorem blk_r30_SamePackets : ∀ p, Le.runT (EV Tryz.prog gl 49 mods_r30_SamePackets noH) (mdlOf mods_r30_SamePackets noH) A_r30_SamePackets 49 Tryz.f49 0 (doneP (EV Tryz.prog gl 49 mods_r30_SamePackets noH) Tryz.f49) 1000 (.run (sp_r30_SamePackets p).c) (sp_r30_SamePackets p).K (sp_r30_SamePackets p).st (sp_r30_SamePackets p).sk = (T_r30_SamePackets p).map (leafOf (outP (U := U) 4) sp_r30_SamePackets)
  | .b0 a0 a1 => by kernel_rfl
  | .b1 a0 a1 a2 => by kernel_rfl
theorem ok_r30_SamePackets : FnOK Tryz.prog B0 49 M_r30_SamePackets := by
  refine fn_flow rfl (univ_ok _ rfl) mix_ok (fn := Tryz.f49) (c := c_r30_SamePackets) (mods := mods_r30_SamePackets) (hmods := noH) ?_ (fun g k m h => by cases h) Tryz.func49 (by kernel_rfl) (by kernel_rfl) (by kernel_rfl) M_r30_SamePackets T_r30_SamePackets sp_r30_SamePackets blk_r30_SamePackets (fun x => .b0 x.1 x.2.1) (fun x => rfl) (fun x => rfl)
  intro g m h
  unfold mods_r30_SamePackets at h
  split at h <;> cases h
  · exact ok_r30_SamePacket

/-! wireless/wirelessref30.SameControls -/
inductive P_r30_SameControls where
  | b0 (a0 : List api_Control) (a1 : List api_Control)
  | b1 (a0 : List api_Control) (a1 : List api_Control) (a2 : Int)
noncomputable def T_r30_SameControls : P_r30_SameControls → Tr U (Bool ⊕ P_r30_SameControls)
  | .b0 a0 a1 => .br ((↑a0.length : Int) != (↑a1.length : Int)) (
    .leaf (.inl false)) (
    .leaf (.inr (.b1 a0 a1 (0 : Int))))
  | .b1 a0 a1 a2 => .br (decide (a2 < (↑a0.length : Int))) (
    .chk (decide (0 ≤ a2 ∧ a2 < (↑a0.length : Int))) (
      .bind 156 (a0[(Int.toNat a2)]?) (fun (x1 : api_Control) => 
        .chk (decide (0 ≤ a2 ∧ a2 < (↑a1.length : Int))) (
          .bind 156 (a1[(Int.toNat a2)]?) (fun (x2 : api_Control) => 
            .br (!((x1.Kind == x2.Kind) && ((x1.Update.WinSize == x2.Update.WinSize) && ((x1.Update.WinOffset == x2.Update.WinOffset) && ((x1.Update.Interval == x2.Update.Interval) && ((x1.Update.Latency == x2.Update.Latency) && ((x1.Update.Timeout == x2.Update.Timeout) && ((x1.Map == x2.Map) && ((x1.Instant == x2.Instant) && ((x1.Reason == x2.Reason) && ((x1.Rejected == x2.Rejected) && ((x1.Salt == x2.Salt) && ((x1.Mark == x2.Mark) && ((x1.Features == x2.Features) && ((x1.Version == x2.Version) && ((x1.Length == x2.Length) && true)))))))))))))))) (
              .leaf (.inl false)) (
              .leaf (.inr (.b1 a0 a1 (w64 (a2 + (1 : Int))))))))))) (
    .leaf (.inl true))
noncomputable def m_r30_SameControls (a0 : List api_Control) (a1 : List api_Control) : Option Bool := flow T_r30_SameControls (.b0 a0 a1)
noncomputable def M_r30_SameControls : Mod U := { ts := [36, 36], rt := 4, fn := fun x => m_r30_SameControls x.1 x.2.1, ok := by decide }
noncomputable def A_r30_SameControls : Nat → Option (List Nat)
  | 4 => some [0, 1, 5]
  | _ => none
noncomputable def mods_r30_SameControls : FuncId → Option (Mod U)
  | _ => none
noncomputable def c_r30_SameControls : Code := bodyOf Tryz.f51
noncomputable def sp_r30_SameControls : P_r30_SameControls → Spot U
  | .b0 a0 a1 => ⟨c_r30_SameControls, [], entryS [36, 36] (a0, a1, ()) 26, false⟩
  | .b1 a0 a1 a2 => ⟨(nav c_r30_SameControls [1, 1, 0, 1, 0, 0, 0, 0] []).1, (nav c_r30_SameControls [1, 1, 0, 1, 0, 0, 0, 0] []).2, ⟨[.sl 156 a0, .sl 156 a1, .und, .und, .und, .si .i64 a2, .und, .und, .und, .und, .und, .und, .und, .und, .und, .und, .und, .und, .und, .und, .und, .und, .und, .und, .und, .und], []⟩, true⟩
theorem blk_r30_SameControls : ∀ p, Le.runT (EV Tryz.prog gl 51 mods_r30_SameControls noH) (mdlOf mods_r30_SameControls noH) A_r30_SameControls 51 Tryz.f51 0 (doneP (EV Tryz.prog gl 51 mods_r30_SameControls noH) Tryz.f51) 1000 (.run (sp_r30_SameControls p).c) (sp_r30_SameControls p).K (sp_r30_SameControls p).st (sp_r30_SameControls p).sk = (T_r30_SameControls p).map (leafOf (outP (U := U) 4) sp_r30_SameControls)
  | .b0 a0 a1 => by kernel_rfl
  | .b1 a0 a1 a2 => by kernel_rfl
theorem ok_r30_SameControls : FnOK Tryz.prog B0 51 M_r30_SameControls := by
  refine fn_flow rfl (univ_ok _ rfl) mix_ok (fn := Tryz.f51) (c := c_r30_SameControls) (mods := mods_r30_SameControls) (hmods := noH) ?_ (fun g k m h => by cases h) Tryz.func51 (by kernel_rfl) (by kernel_rfl) (by kernel_rfl) M_r30_SameControls T_r30_SameControls sp_r30_SameControls blk_r30_SameControls (fun x => .b0 x.1 x.2.1) (fun x => rfl) (fun x => rfl)
  intro g m h
  cases h

/-! wireless/wirelessref30.SameProcs -/
inductive P_r30_SameProcs where
  | b0 (a0 : api_Procs) (a1 : api_Procs)
  | b1 (a0 : api_Procs) (a1 : api_Procs)
  | b2 (a0 : Int) (a1 : api_Procs) (a2 : api_Procs)
noncomputable def T_r30_SameProcs : P_r30_SameProcs → Tr U (Bool ⊕ P_r30_SameProcs)
  | .b0 a0 a1 => .bind 4 (m_r30_SameControls a0.Waiting a1.Waiting) (fun (x1 : Bool) => 
    .br (!x1) (
      .leaf (.inl false)) (
      .br ((↑a0.Pending.length : Int) != (↑a1.Pending.length : Int)) (
        .leaf (.inl false)) (
        .leaf (.inr (.b1 a0 a1)))))
  | .b1 a0 a1 => .leaf (.inr (.b2 (0 : Int) a0 a1))
  | .b2 a0 a1 a2 => .br (decide (a0 < (↑a1.Pending.length : Int))) (
    .chk (decide (0 ≤ a0 ∧ a0 < (↑a1.Pending.length : Int))) (
      .bind 138 (a1.Pending[(Int.toNat a0)]?) (fun (x1 : api_Change) => 
        .chk (decide (0 ≤ a0 ∧ a0 < (↑a2.Pending.length : Int))) (
          .bind 138 (a2.Pending[(Int.toNat a0)]?) (fun (x2 : api_Change) => 
            .br (!((x1.Kind == x2.Kind) && ((x1.Instant == x2.Instant) && ((x1.Update.WinSize == x2.Update.WinSize) && ((x1.Update.WinOffset == x2.Update.WinOffset) && ((x1.Update.Interval == x2.Update.Interval) && ((x1.Update.Latency == x2.Update.Latency) && ((x1.Update.Timeout == x2.Update.Timeout) && ((x1.Map == x2.Map) && true))))))))) (
              .leaf (.inl false)) (
              .leaf (.inr (.b2 (w64 (a0 + (1 : Int))) a1 a2)))))))) (
    .br (a1.Role == a2.Role) (
      .br (a1.Own == a2.Own) (
        .br (a1.Since == a2.Since) (
          .br (a1.Other == a2.Other) (
            .br (a1.OtherTime == a2.OtherTime) (
              .br (a1.Features == a2.Features) (
                .br (a1.Common == a2.Common) (
                  .br (a1.Known == a2.Known) (
                    .br (a1.Told == a2.Told) (
                      .br (a1.VersionTx == a2.VersionTx) (
                        .br (a1.Version == a2.Version) (
                          .br (a1.Length == a2.Length) (
                            .br (a1.Limit == a2.Limit) (
                              .br (a1.Salt == a2.Salt) (
                                .br (a1.Peer == a2.Peer) (
                                  .br (a1.Mark == a2.Mark) (
                                    .br (a1.Crypt == a2.Crypt) (
                                      .leaf (.inl (a1.Ended == a2.Ended))) (
                                      .leaf (.inl false))) (
                                    .leaf (.inl false))) (
                                  .leaf (.inl false))) (
                                .leaf (.inl false))) (
                              .leaf (.inl false))) (
                            .leaf (.inl false))) (
                          .leaf (.inl false))) (
                        .leaf (.inl false))) (
                      .leaf (.inl false))) (
                    .leaf (.inl false))) (
                  .leaf (.inl false))) (
                .leaf (.inl false))) (
              .leaf (.inl false))) (
            .leaf (.inl false))) (
          .leaf (.inl false))) (
        .leaf (.inl false))) (
      .leaf (.inl false)))
noncomputable def m_r30_SameProcs (a0 : api_Procs) (a1 : api_Procs) : Option Bool := flow T_r30_SameProcs (.b0 a0 a1)
noncomputable def M_r30_SameProcs : Mod U := { ts := [39, 39], rt := 4, fn := fun x => m_r30_SameProcs x.1 x.2.1, ok := by decide }
noncomputable def A_r30_SameProcs : Nat → Option (List Nat)
  | 3 => some [2, 3]
  | 4 => some [2, 3, 5]
  | _ => none
noncomputable def mods_r30_SameProcs : FuncId → Option (Mod U)
  | 51 => some M_r30_SameControls
  | _ => none
noncomputable def c_r30_SameProcs : Code := bodyOf Tryz.f50
noncomputable def sp_r30_SameProcs : P_r30_SameProcs → Spot U
  | .b0 a0 a1 => ⟨c_r30_SameProcs, [], entryS [39, 39] (a0, a1, ()) 163, false⟩
  | .b1 a0 a1 => ⟨(nav c_r30_SameProcs [1, 1, 0, 0] []).1, (nav c_r30_SameProcs [1, 1, 0, 0] []).2, ⟨[.und, .und, .ptr 0 0 0 1, .ptr 1 0 0 1, .und, .und, .und, .und, .und, .und, .und, .und, .und, .und, .und, .und, .und, .und, .und, .und, .und, .und, .und, .und, .und, .und, .und, .und, .und, .und, .und, .und, .und, .und, .und, .und, .und, .und, .und, .und, .und, .und, .und, .und, .und, .und, .und, .und, .und, .und, .und, .und, .und, .und, .und, .und, .und, .und, .und, .und, .und, .und, .und, .und, .und, .und, .und, .und, .und, .und, .und, .und, .und, .und, .und, .und, .und, .und, .und, .und, .und, .und, .und, .und, .und, .und, .und, .und, .und, .und, .und, .und, .und, .und, .und, .und, .und, .und, .und, .und, .und, .und, .und, .und, .und, .und, .und, .und, .und, .und, .und, .und, .und, .und, .und, .und, .und, .und, .und, .und, .und, .und, .und, .und, .und, .und, .und, .und, .und, .und, .und, .und, .und, .und, .und, .und, .und, .und, .und, .und, .und, .und, .und, .und, .und, .und, .und, .und, .und, .und, .und, .und, .und, .und, .und, .und, .und, .und, .und, .und, .und, .und, .und], [.var 39 20 (U.encS 39 a0), .var 39 20 (U.encS 39 a1)]⟩, true⟩
  | .b2 a0 a1 a2 => ⟨(nav c_r30_SameProcs [1, 1, 0, 1, 0, 0, 0, 0] []).1, (nav c_r30_SameProcs [1, 1, 0, 1, 0, 0, 0, 0] []).2, ⟨[.und, .und, .ptr 0 0 0 1, .ptr 1 0 0 1, .und, .si .i64 a0, .und, .und, .und, .und, .und, .und, .und, .und, .und, .und, .und, .und, .und, .und, .und, .und, .und, .und, .und, .und, .und, .und, .und, .und, .und, .und, .und, .und, .und, .und, .und, .und, .und, .und, .und, .und, .und, .und, .und, .und, .und, .und, .und, .und, .und, .und, .und, .und, .und, .und, .und, .und, .und, .und, .und, .und, .und, .und, .und, .und, .und, .und, .und, .und, .und, .und, .und, .und, .und, .und, .und, .und, .und, .und, .und, .und, .und, .und, .und, .und, .und, .und, .und, .und, .und, .und, .und, .und, .und, .und, .und, .und, .und, .und, .und, .und, .und, .und, .und, .und, .und, .und, .und, .und, .und, .und, .und, .und, .und, .und, .und, .und, .und, .und, .und, .und, .und, .und, .und, .und, .und, .und, .und, .und, .und, .und, .und, .und, .und, .und, .und, .und, .und, .und, .und, .und, .und, .und, .und, .und, .und, .und, .und, .und, .und, .und, .und, .und, .und, .und, .und, .und, .und, .und, .und, .und, .und], [.var 39 20 (U.encS 39 a1), .var 39 20 (U.encS 39 a2)]⟩, true⟩
theorem blk_r30_SameProcs : ∀ p, Le.runT (EV Tryz.prog gl 50 mods_r30_SameProcs noH) (mdlOf mods_r30_SameProcs noH) A_r30_SameProcs 50 Tryz.f50 0 (doneP (EV Tryz.prog gl 50 mods_r30_SameProcs noH) Tryz.f50) 1000 (.run (sp_r30_SameProcs p).c) (sp_r30_SameProcs p).K (sp_r30_SameProcs p).st (sp_r30_SameProcs p).sk = (T_r30_SameProcs p).map (leafOf (outP (U := U) 4) sp_r30_SameProcs)
  | .b0 a0 a1 => by kernel_rfl
  | .b1 a0 a1 => by kernel_rfl
  | .b2 a0 a1 a2 => by kernel_rfl
theorem ok_r30_SameProcs : FnOK Tryz.prog B0 50 M_r30_SameProcs := by
  refine fn_flow rfl (univ_ok _ rfl) mix_ok (fn := Tryz.f50) (c := c_r30_SameProcs) (mods := mods_r30_SameProcs) (hmods := noH) ?_ (fun g k m h => by cases h) Tryz.func50 (by kernel_rfl) (by kernel_rfl) (by kernel_rfl) M_r30_SameProcs T_r30_SameProcs sp_r30_SameProcs blk_r30_SameProcs (fun x => .b0 x.1 x.2.1) (fun x => rfl) (fun x => rfl)
  intro g m h
  unfold mods_r30_SameProcs at h
  split at h <;> cases h
  · exact ok_r30_SameControls

/-! wireless/wirelessref30.Same -/
inductive P_r30_Same where
  | b0 (a0 : api_Link) (a1 : api_Link)
  | b1 (a0 : Int) (a1 : api_Link) (a2 : api_Link)
  | b2 (a0 : api_Link) (a1 : api_Link)
  | b3 (a0 : api_Link) (a1 : api_Link)
  | b4 (a0 : api_Link) (a1 : api_Link)
noncomputable def T_r30_Same : P_r30_Same → Tr U (Bool ⊕ P_r30_Same)
  | .b0 a0 a1 => .br ((↑a0.Tallies.length : Int) != (↑a1.Tallies.length : Int)) (
    .leaf (.inl false)) (
    .leaf (.inr (.b1 (0 : Int) a0 a1)))
  | .b1 a0 a1 a2 => .br (decide (a0 < (↑a1.Tallies.length : Int))) (
    .chk (decide (0 ≤ a0 ∧ a0 < (↑a1.Tallies.length : Int))) (
      .bind 99 (a1.Tallies[(Int.toNat a0)]?) (fun (x1 : api_Tally) => 
        .chk (decide (0 ≤ a0 ∧ a0 < (↑a2.Tallies.length : Int))) (
          .bind 99 (a2.Tallies[(Int.toNat a0)]?) (fun (x2 : api_Tally) => 
            .br (!((x1.Good == x2.Good) && ((x1.Bad == x2.Bad) && true))) (
              .leaf (.inl false)) (
              .leaf (.inr (.b1 (w64 (a0 + (1 : Int))) a1 a2)))))))) (
    .br (a1.Arq.SN != a2.Arq.SN) (
      .leaf (.inl false)) (
      .br (a1.Arq.NESN != a2.Arq.NESN) (
        .leaf (.inl false)) (
        .bind 4 (m_r30_SamePackets a1.Arq.Queue a2.Arq.Queue) (fun (x3 : Bool) => 
          .br (!x3) (
            .leaf (.inl false)) (
            .br (!(a1.Arq.Open == a2.Arq.Open)) (
              .leaf (.inl false)) (
              .br (!(a1.Arq.Empty == a2.Arq.Empty)) (
                .leaf (.inl false)) (
                .br (a1.Arq.Acked != a2.Arq.Acked) (
                  .leaf (.inl false)) (
                  .br (a1.Arq.Taken != a2.Arq.Taken) (
                    .leaf (.inl false)) (
                    .leaf (.inr (.b2 a1 a2)))))))))))
  | .b2 a0 a1 => .br (a0.Role != a1.Role) (
    .leaf (.inl false)) (
    .br (!((a0.Params.Access == a1.Params.Access) && ((a0.Params.Init == a1.Params.Init) && ((a0.Params.Update.WinSize == a1.Params.Update.WinSize) && ((a0.Params.Update.WinOffset == a1.Params.Update.WinOffset) && ((a0.Params.Update.Interval == a1.Params.Update.Interval) && ((a0.Params.Update.Latency == a1.Params.Update.Latency) && ((a0.Params.Update.Timeout == a1.Params.Update.Timeout) && ((a0.Params.Map == a1.Params.Map) && ((a0.Params.Hop == a1.Params.Hop) && ((a0.Params.PPM == a1.Params.PPM) && ((a0.Params.Algorithm == a1.Params.Algorithm) && true)))))))))))) (
      .leaf (.inl false)) (
      .br (a0.Clock != a1.Clock) (
        .leaf (.inl false)) (
        .br (a0.Event != a1.Event) (
          .leaf (.inl false)) (
          .br (a0.Last != a1.Last) (
            .leaf (.inl false)) (
            .br (a0.Anchor != a1.Anchor) (
              .leaf (.inl false)) (
              .br (a0.Size != a1.Size) (
                .leaf (.inl false)) (
                .br (a0.Sync != a1.Sync) (
                  .leaf (.inl false)) (
                  .br (a0.Heard != a1.Heard) (
                    .leaf (.inl false)) (
                    .leaf (.inr (.b3 a0 a1)))))))))))
  | .b3 a0 a1 => .br (!(a0.Begun == a1.Begun)) (
    .leaf (.inl false)) (
    .br (!(a0.Got == a1.Got)) (
      .leaf (.inl false)) (
      .br (!(a0.Good == a1.Good)) (
        .leaf (.inl false)) (
        .br (!(a0.Acked == a1.Acked)) (
          .leaf (.inl false)) (
          .br (!(a0.More == a1.More)) (
            .leaf (.inl false)) (
            .br (!((a0.Listen.Latency == a1.Listen.Latency) && ((a0.Listen.Skipped == a1.Listen.Skipped) && ((a0.Listen.Full == a1.Listen.Full) && true)))) (
              .leaf (.inl false)) (
              .br (!((a0.Session.Role == a1.Session.Role) && ((a0.Session.Key == a1.Session.Key) && ((a0.Session.Salt == a1.Session.Salt) && ((a0.Session.TxOn == a1.Session.TxOn) && ((a0.Session.RxOn == a1.Session.RxOn) && ((a0.Session.Tx == a1.Session.Tx) && ((a0.Session.Rx == a1.Session.Rx) && true)))))))) (
                .leaf (.inl false)) (
                .leaf (.inr (.b4 a0 a1)))))))))
  | .b4 a0 a1 => .bind 4 (m_r30_SameProcs a0.Procs a1.Procs) (fun (x1 : Bool) => 
    .br x1 (
      .br (a0.Key == a1.Key) (
        .bind 4 (m_r30_SameControls a0.Commands a1.Commands) (fun (x2 : Bool) => 
          .br x2 (
            .br (a0.Reason == a1.Reason) (
              .leaf (.inl (a0.Seed == a1.Seed))) (
              .leaf (.inl false))) (
            .leaf (.inl false)))) (
        .leaf (.inl false))) (
      .leaf (.inl false)))
noncomputable def m_r30_Same (a0 : api_Link) (a1 : api_Link) : Option Bool := flow T_r30_Same (.b0 a0 a1)
noncomputable def M_r30_Same : Mod U := { ts := [44, 44], rt := 4, fn := fun x => m_r30_Same x.1 x.2.1, ok := by decide }
noncomputable def A_r30_Same : Nat → Option (List Nat)
  | 4 => some [2, 3, 5]
  | 11 => some [2, 3]
  | 13 => some [2, 3]
  | 15 => some [2, 3]
  | _ => none
noncomputable def mods_r30_Same : FuncId → Option (Mod U)
  | 49 => some M_r30_SamePackets
  | 50 => some M_r30_SameProcs
  | 51 => some M_r30_SameControls
  | _ => none
noncomputable def c_r30_Same : Code := bodyOf Tryz.f13
noncomputable def sp_r30_Same : P_r30_Same → Spot U
  | .b0 a0 a1 => ⟨c_r30_Same, [], entryS [44, 44] (a0, a1, ()) 226, false⟩
  | .b1 a0 a1 a2 => ⟨(nav c_r30_Same [1, 1, 0, 1, 0, 0, 0, 0] []).1, (nav c_r30_Same [1, 1, 0, 1, 0, 0, 0, 0] []).2, ⟨[.und, .und, .ptr 0 0 0 1, .ptr 1 0 0 1, .und, .si .i64 a0, .und, .und, .und, .und, .und, .und, .und, .und, .und, .und, .und, .und, .und, .und, .und, .und, .und, .und, .und, .und, .und, .und, .und, .und, .und, .und, .und, .und, .und, .und, .und, .und, .und, .und, .und, .und, .und, .und, .und, .und, .und, .und, .und, .und, .und, .und, .und, .und, .und, .und, .und, .und, .und, .und, .und, .und, .und, .und, .und, .und, .und, .und, .und, .und, .und, .und, .und, .und, .und, .und, .und, .und, .und, .und, .und, .und, .und, .und, .und, .und, .und, .und, .und, .und, .und, .und, .und, .und, .und, .und, .und, .und, .und, .und, .und, .und, .und, .und, .und, .und, .und, .und, .und, .und, .und, .und, .und, .und, .und, .und, .und, .und, .und, .und, .und, .und, .und, .und, .und, .und, .und, .und, .und, .und, .und, .und, .und, .und, .und, .und, .und, .und, .und, .und, .und, .und, .und, .und, .und, .und, .und, .und, .und, .und, .und, .und, .und, .und, .und, .und, .und, .und, .und, .und, .und, .und, .und, .und, .und, .und, .und, .und, .und, .und, .und, .und, .und, .und, .und, .und, .und, .und, .und, .und, .und, .und, .und, .und, .und, .und, .und, .und, .und, .und, .und, .und, .und, .und, .und, .und, .und, .und, .und, .und, .und, .und, .und, .und, .und, .und, .und, .und, .und, .und, .und, .und, .und, .und, .und, .und, .und, .und, .und, .und, .und, .und, .und, .und, .und, .und], [.var 44 66 (U.encS 44 a1), .var 44 66 (U.encS 44 a2)]⟩, true⟩
  | .b2 a0 a1 => ⟨(nav c_r30_Same [1, 1, 1, 1, 1, 0, 0] []).1, (nav c_r30_Same [1, 1, 1, 1, 1, 0, 0] []).2, ⟨[.und, .und, .ptr 0 0 0 1, .ptr 1 0 0 1, .und, .und, .und, .und, .und, .und, .und, .und, .und, .und, .und, .und, .und, .und, .und, .und, .und, .und, .und, .und, .und, .und, .und, .und, .und, .und, .und, .und, .und, .und, .und, .und, .und, .und, .und, .und, .und, .und, .und, .und, .und, .und, .und, .und, .und, .und, .und, .und, .und, .und, .und, .und, .und, .und, .und, .und, .und, .und, .und, .und, .und, .und, .und, .und, .und, .und, .und, .und, .und, .und, .und, .und, .und, .und, .und, .und, .und, .und, .und, .und, .und, .und, .und, .und, .und, .und, .und, .und, .und, .und, .und, .und, .und, .und, .und, .und, .und, .und, .und, .und, .und, .und, .und, .und, .und, .und, .und, .und, .und, .und, .und, .und, .und, .und, .und, .und, .und, .und, .und, .und, .und, .und, .und, .und, .und, .und, .und, .und, .und, .und, .und, .und, .und, .und, .und, .und, .und, .und, .und, .und, .und, .und, .und, .und, .und, .und, .und, .und, .und, .und, .und, .und, .und, .und, .und, .und, .und, .und, .und, .und, .und, .und, .und, .und, .und, .und, .und, .und, .und, .und, .und, .und, .und, .und, .und, .und, .und, .und, .und, .und, .und, .und, .und, .und, .und, .und, .und, .und, .und, .und, .und, .und, .und, .und, .und, .und, .und, .und, .und, .und, .und, .und, .und, .und, .und, .und, .und, .und, .und, .und, .und, .und, .und, .und, .und, .und, .und, .und, .und, .und, .und, .und], [.var 44 66 (U.encS 44 a0), .var 44 66 (U.encS 44 a1)]⟩, true⟩
  | .b3 a0 a1 => ⟨(nav c_r30_Same [1, 1, 1, 1, 1, 1, 0, 0] []).1, (nav c_r30_Same [1, 1, 1, 1, 1, 1, 0, 0] []).2, ⟨[.und, .und, .ptr 0 0 0 1, .ptr 1 0 0 1, .und, .und, .und, .und, .und, .und, .und, .und, .und, .und, .und, .und, .und, .und, .und, .und, .und, .und, .und, .und, .und, .und, .und, .und, .und, .und, .und, .und, .und, .und, .und, .und, .und, .und, .und, .und, .und, .und, .und, .und, .und, .und, .und, .und, .und, .und, .und, .und, .und, .und, .und, .und, .und, .und, .und, .und, .und, .und, .und, .und, .und, .und, .und, .und, .und, .und, .und, .und, .und, .und, .und, .und, .und, .und, .und, .und, .und, .und, .und, .und, .und, .und, .und, .und, .und, .und, .und, .und, .und, .und, .und, .und, .und, .und, .und, .und, .und, .und, .und, .und, .und, .und, .und, .und, .und, .und, .und, .und, .und, .und, .und, .und, .und, .und, .und, .und, .und, .und, .und, .und, .und, .und, .und, .und, .und, .und, .und, .und, .und, .und, .und, .und, .und, .und, .und, .und, .und, .und, .und, .und, .und, .und, .und, .und, .und, .und, .und, .und, .und, .und, .und, .und, .und, .und, .und, .und, .und, .und, .und, .und, .und, .und, .und, .und, .und, .und, .und, .und, .und, .und, .und, .und, .und, .und, .und, .und, .und, .und, .und, .und, .und, .und, .und, .und, .und, .und, .und, .und, .und, .und, .und, .und, .und, .und, .und, .und, .und, .und, .und, .und, .und, .und, .und, .und, .und, .und, .und, .und, .und, .und, .und, .und, .und, .und, .und, .und, .und, .und, .und, .und, .und, .und], [.var 44 66 (U.encS 44 a0), .var 44 66 (U.encS 44 a1)]⟩, true⟩
  | .b4 a0 a1 => ⟨(nav c_r30_Same [1, 1, 1, 1, 1, 1, 1, 0] []).1, (nav c_r30_Same [1, 1, 1, 1, 1, 1, 1, 0] []).2, ⟨[.und, .und, .ptr 0 0 0 1, .ptr 1 0 0 1, .und, .und, .und, .und, .und, .und, .und, .und, .und, .und, .und, .und, .und, .und, .und, .und, .und, .und, .und, .und, .und, .und, .und, .und, .und, .und, .und, .und, .und, .und, .und, .und, .und, .und, .und, .und, .und, .und, .und, .und, .und, .und, .und, .und, .und, .und, .und, .und, .und, .und, .und, .und, .und, .und, .und, .und, .und, .und, .und, .und, .und, .und, .und, .und, .und, .und, .und, .und, .und, .und, .und, .und, .und, .und, .und, .und, .und, .und, .und, .und, .und, .und, .und, .und, .und, .und, .und, .und, .und, .und, .und, .und, .und, .und, .und, .und, .und, .und, .und, .und, .und, .und, .und, .und, .und, .und, .und, .und, .und, .und, .und, .und, .und, .und, .und, .und, .und, .und, .und, .und, .und, .und, .und, .und, .und, .und, .und, .und, .und, .und, .und, .und, .und, .und, .und, .und, .und, .und, .und, .und, .und, .und, .und, .und, .und, .und, .und, .und, .und, .und, .und, .und, .und, .und, .und, .und, .und, .und, .und, .und, .und, .und, .und, .und, .und, .und, .und, .und, .und, .und, .und, .und, .und, .und, .und, .und, .und, .und, .und, .und, .und, .und, .und, .und, .und, .und, .und, .und, .und, .und, .und, .und, .und, .und, .und, .und, .und, .und, .und, .und, .und, .und, .und, .und, .und, .und, .und, .und, .und, .und, .und, .und, .und, .und, .und, .und, .und, .und, .und, .und, .und, .und], [.var 44 66 (U.encS 44 a0), .var 44 66 (U.encS 44 a1)]⟩, true⟩
theorem blk_r30_Same : ∀ p, Le.runT (EV Tryz.prog gl 13 mods_r30_Same noH) (mdlOf mods_r30_Same noH) A_r30_Same 13 Tryz.f13 0 (doneP (EV Tryz.prog gl 13 mods_r30_Same noH) Tryz.f13) 1000 (.run (sp_r30_Same p).c) (sp_r30_Same p).K (sp_r30_Same p).st (sp_r30_Same p).sk = (T_r30_Same p).map (leafOf (outP (U := U) 4) sp_r30_Same)
  | .b0 a0 a1 => by kernel_rfl
  | .b1 a0 a1 a2 => by kernel_rfl
  | .b2 a0 a1 => by kernel_rfl
  | .b3 a0 a1 => by kernel_rfl
  | .b4 a0 a1 => by kernel_rfl
theorem ok_r30_Same : FnOK Tryz.prog B0 13 M_r30_Same := by
  refine fn_flow rfl (univ_ok _ rfl) mix_ok (fn := Tryz.f13) (c := c_r30_Same) (mods := mods_r30_Same) (hmods := noH) ?_ (fun g k m h => by cases h) Tryz.func13 (by kernel_rfl) (by kernel_rfl) (by kernel_rfl) M_r30_Same T_r30_Same sp_r30_Same blk_r30_Same (fun x => .b0 x.1 x.2.1) (fun x => rfl) (fun x => rfl)
  intro g m h
  unfold mods_r30_Same at h
  split at h <;> cases h
  · exact ok_r30_SamePackets
  · exact ok_r30_SameProcs
  · exact ok_r30_SameControls

/-! slices.Clone[[]byte,byte] -/
theorem clone_slices_Clone_byte : CloneOK Tryz.prog 145 1 1 5 := clone_ok mix_ok (t := 62) (tb := 4) (e := 5) Tryz.func145 (by kernel_rfl) (by kernel_rfl) (by kernel_rfl) (by kernel_rfl) (by kernel_rfl) (by kernel_rfl) (by kernel_rfl) (by decide)
noncomputable def m_slices_Clone_byte (a0 : List Int) : Option (List Int) := if a0.length * 1 ≤ lim ∧ a0.length ≤ maxLen then some a0 else none
noncomputable def M_slices_Clone_byte : Mod U := { ts := [62], rt := 62, fn := fun x => m_slices_Clone_byte x.1, ok := by decide }
theorem ok_slices_Clone_byte : FnOK Tryz.prog B0 145 M_slices_Clone_byte := clone_fn clone_slices_Clone_byte fun x a hx => by
  simp only [M_slices_Clone_byte, m_slices_Clone_byte] at hx
  split at hx
  · rename_i h
    cases hx
    exact ⟨_, rfl, rfl, by simpa using h.1, by simpa using h.2⟩
  · cases hx

/-! slices.Clone[[]wireless/api.Control,wireless/api.Control] -/
theorem clone_slices_Clone_Control : CloneOK Tryz.prog 146 15 120 156 := clone_ok mix_ok (t := 36) (tb := 4) (e := 156) Tryz.func146 (by kernel_rfl) (by kernel_rfl) (by kernel_rfl) (by kernel_rfl) (by kernel_rfl) (by kernel_rfl) (by kernel_rfl) (by decide)
noncomputable def m_slices_Clone_Control (a0 : List api_Control) : Option (List api_Control) := if a0.length * 120 ≤ lim ∧ a0.length ≤ maxLen then some a0 else none
noncomputable def M_slices_Clone_Control : Mod U := { ts := [36], rt := 36, fn := fun x => m_slices_Clone_Control x.1, ok := by decide }
theorem ok_slices_Clone_Control : FnOK Tryz.prog B0 146 M_slices_Clone_Control := clone_fn clone_slices_Clone_Control fun x a hx => by
  simp only [M_slices_Clone_Control, m_slices_Clone_Control] at hx
  split at hx
  · rename_i h
    cases hx
    exact ⟨_, rfl, rfl, by simpa using h.1, by simpa using h.2⟩
  · cases hx

/-! slices.Clone[[]wireless/api.Change,wireless/api.Change] -/
theorem clone_slices_Clone_Change : CloneOK Tryz.prog 147 8 64 138 := clone_ok mix_ok (t := 37) (tb := 4) (e := 138) Tryz.func147 (by kernel_rfl) (by kernel_rfl) (by kernel_rfl) (by kernel_rfl) (by kernel_rfl) (by kernel_rfl) (by kernel_rfl) (by decide)
noncomputable def m_slices_Clone_Change (a0 : List api_Change) : Option (List api_Change) := if a0.length * 64 ≤ lim ∧ a0.length ≤ maxLen then some a0 else none
noncomputable def M_slices_Clone_Change : Mod U := { ts := [37], rt := 37, fn := fun x => m_slices_Clone_Change x.1, ok := by decide }
theorem ok_slices_Clone_Change : FnOK Tryz.prog B0 147 M_slices_Clone_Change := clone_fn clone_slices_Clone_Change fun x a hx => by
  simp only [M_slices_Clone_Change, m_slices_Clone_Change] at hx
  split at hx
  · rename_i h
    cases hx
    exact ⟨_, rfl, rfl, by simpa using h.1, by simpa using h.2⟩
  · cases hx

end Go.Proofs.YtjodhcdmhobmoaaGreatDoor
