/-
  Functions of the program as functions of Lean (printed by a program of mine).
-/
import Derived.Test.YtjodhcdmhobmoaaGreatDoorFa1
namespace Go.Proofs.YtjodhcdmhobmoaaGreatDoor
open Go Go.Proofs.YtjodhcdmhobmoaaGreatDoor.Le
set_option linter.unusedVariables false
set_option maxRecDepth 100000
/-! wireless/arq.New -/
inductive P_arq_New where
  | b0 
noncomputable def T_arq_New : P_arq_New → Tr U (api_Arq ⊕ P_arq_New)
  | .b0  => .leaf (.inl z_api_Arq)
noncomputable def m_arq_New  : Option api_Arq := flow T_arq_New (.b0)
noncomputable def M_arq_New : Mod U := { ts := [], rt := 33, fn := fun x => m_arq_New, ok := by decide }
noncomputable def A_arq_New : Nat → Option (List Nat)
  | _ => none
noncomputable def mods_arq_New : FuncId → Option (Mod U)
  | _ => none
noncomputable def c_arq_New : Code := bodyOf Tryz.f39
noncomputable def sp_arq_New : P_arq_New → Spot U
  | .b0  => ⟨c_arq_New, [], entryS [] () 2, false⟩
theorem blk_arq_New : ∀ p, Le.runT (EV Tryz.prog gl 39 mods_arq_New noH) (mdlOf mods_arq_New noH) A_arq_New 39 Tryz.f39 0 (doneP (EV Tryz.prog gl 39 mods_arq_New noH) Tryz.f39) 1000 (.run (sp_arq_New p).c) (sp_arq_New p).K (sp_arq_New p).st (sp_arq_New p).sk = (T_arq_New p).map (leafOf (outP (U := U) 33) sp_arq_New)
  | .b0  => by kernel_rfl
theorem ok_arq_New : FnOK Tryz.prog B0 39 M_arq_New := by
  refine fn_flow rfl (univ_ok _ rfl) mix_ok (fn := Tryz.f39) (c := c_arq_New) (mods := mods_arq_New) (hmods := noH) ?_ (fun g k m h => by cases h) Tryz.func39 (by kernel_rfl) (by kernel_rfl) (by kernel_rfl) M_arq_New T_arq_New sp_arq_New blk_arq_New (fun x => .b0) (fun x => rfl) (fun x => rfl)
  intro g m h
  cases h

/-! wireless/latency.New -/
inductive P_latency_New where
  | b0 (a0 : Int)
noncomputable def T_latency_New : P_latency_New → Tr U (api_Listening ⊕ P_latency_New)
  | .b0 a0 => .leaf (.inl (⟨(if (499 : Int) < (if (0 : Int) > a0 then (0 : Int) else a0) then (499 : Int) else (if (0 : Int) > a0 then (0 : Int) else a0)), (0 : Int), true⟩ : api_Listening))
noncomputable def m_latency_New (a0 : Int) : Option api_Listening := flow T_latency_New (.b0 a0)
noncomputable def M_latency_New : Mod U := { ts := [3], rt := 35, fn := fun x => m_latency_New x.1, ok := by decide }
noncomputable def A_latency_New : Nat → Option (List Nat)
  | _ => none
noncomputable def mods_latency_New : FuncId → Option (Mod U)
  | _ => none
noncomputable def c_latency_New : Code := bodyOf Tryz.f40
noncomputable def sp_latency_New : P_latency_New → Spot U
  | .b0 a0 => ⟨c_latency_New, [], entryS [3] (a0, ()) 7, false⟩
theorem blk_latency_New : ∀ p, Le.runT (EV Tryz.prog gl 40 mods_latency_New noH) (mdlOf mods_latency_New noH) A_latency_New 40 Tryz.f40 0 (doneP (EV Tryz.prog gl 40 mods_latency_New noH) Tryz.f40) 1000 (.run (sp_latency_New p).c) (sp_latency_New p).K (sp_latency_New p).st (sp_latency_New p).sk = (T_latency_New p).map (leafOf (outP (U := U) 35) sp_latency_New)
  | .b0 a0 => by kernel_rfl
theorem ok_latency_New : FnOK Tryz.prog B0 40 M_latency_New := by
  refine fn_flow rfl (univ_ok _ rfl) mix_ok (fn := Tryz.f40) (c := c_latency_New) (mods := mods_latency_New) (hmods := noH) ?_ (fun g k m h => by cases h) Tryz.func40 (by kernel_rfl) (by kernel_rfl) (by kernel_rfl) M_latency_New T_latency_New sp_latency_New blk_latency_New (fun x => .b0 x.1) (fun x => rfl) (fun x => rfl)
  intro g m h
  cases h

/-! wireless/procedure.New -/
inductive P_procedure_New where
  | b0 (a0 : Int) (a1 : Int) (a2 : Int)
  | b1 (a0 : Int) (a1 : Int) (a2 : Int) (a3 : api_Procs)
noncomputable def T_procedure_New : P_procedure_New → Tr U (api_Procs ⊕ P_procedure_New)
  | .b0 a0 a1 a2 => .br (a0 != (1 : Int)) (
    .leaf (.inr (.b1 (0 : Int) a1 a2 z_api_Procs))) (
    .leaf (.inr (.b1 a0 a1 a2 z_api_Procs)))
  | .b1 a0 a1 a2 a3 => .leaf (.inl (⟨a0, (-1 : Int), (0 : Int), [], (-1 : Int), (0 : Int), [], false, a1, (0 : Int), false, false, (-1 : Int), (27 : Int), (if (if (251 : Int) < a2 then (251 : Int) else a2) > (27 : Int) then (if (251 : Int) < a2 then (251 : Int) else a2) else (27 : Int)), (0 : Int), (0 : Int), (0 : Int), (0 : Int), (0 : Int)⟩ : api_Procs))
noncomputable def m_procedure_New (a0 : Int) (a1 : Int) (a2 : Int) : Option api_Procs := flow T_procedure_New (.b0 a0 a1 a2)
noncomputable def M_procedure_New : Mod U := { ts := [3, 25, 3], rt := 39, fn := fun x => m_procedure_New x.1 x.2.1 x.2.2.1, ok := by decide }
noncomputable def A_procedure_New : Nat → Option (List Nat)
  | 3 => some [0, 1, 2, 6]
  | _ => none
noncomputable def mods_procedure_New : FuncId → Option (Mod U)
  | _ => none
noncomputable def c_procedure_New : Code := bodyOf Tryz.f41
noncomputable def sp_procedure_New : P_procedure_New → Spot U
  | .b0 a0 a1 a2 => ⟨c_procedure_New, [], entryS [3, 25, 3] (a0, a1, a2, ()) 15, false⟩
  | .b1 a0 a1 a2 a3 => ⟨(nav c_procedure_New [1, 1, 0] []).1, (nav c_procedure_New [1, 1, 0] []).2, ⟨[.si .i64 a0, .si .u64 a1, .si .i64 a2, .und, .und, .und, .ptr 0 0 0 1, .und, .und, .und, .und, .und, .und, .und, .und], [.var 39 20 (.agg [.si .i64 a3.Role, .si .i64 a3.Own, .si .i64 a3.Since, .nil 0, .si .i64 a3.Other, .si .i64 a3.OtherTime, .nil 0, .sb a3.Told, .si .u64 a3.Features, .si .u64 a3.Common, .sb a3.Known, .sb a3.VersionTx, .si .i64 a3.Version, .si .i64 a3.Length, .si .i64 a3.Limit, .si .u64 a3.Salt, .si .u64 a3.Peer, .si .u64 a3.Mark, .si .i64 a3.Crypt, .si .i64 a3.Ended])]⟩, true⟩
theorem blk_procedure_New : ∀ p, Le.runT (EV Tryz.prog gl 41 mods_procedure_New noH) (mdlOf mods_procedure_New noH) A_procedure_New 41 Tryz.f41 0 (doneP (EV Tryz.prog gl 41 mods_procedure_New noH) Tryz.f41) 1000 (.run (sp_procedure_New p).c) (sp_procedure_New p).K (sp_procedure_New p).st (sp_procedure_New p).sk = (T_procedure_New p).map (leafOf (outP (U := U) 39) sp_procedure_New)
  | .b0 a0 a1 a2 => by kernel_rfl
  | .b1 a0 a1 a2 a3 => by kernel_rfl
theorem ok_procedure_New : FnOK Tryz.prog B0 41 M_procedure_New := by
  refine fn_flow rfl (univ_ok _ rfl) mix_ok (fn := Tryz.f41) (c := c_procedure_New) (mods := mods_procedure_New) (hmods := noH) ?_ (fun g k m h => by cases h) Tryz.func41 (by kernel_rfl) (by kernel_rfl) (by kernel_rfl) M_procedure_New T_procedure_New sp_procedure_New blk_procedure_New (fun x => .b0 x.1 x.2.1 x.2.2.1) (fun x => rfl) (fun x => rfl)
  intro g m h
  cases h

/-! wireless/assess.Fresh -/
inductive P_assess_Fresh where
  | b0 
noncomputable def T_assess_Fresh : P_assess_Fresh → Tr U ((List api_Tally) ⊕ P_assess_Fresh)
  | .b0  => .chk (decide (0 ≤ (37 : Int) ∧ (37 : Int) ≤ (37 : Int) ∧ Int.toNat (37 : Int) * 16 ≤ lim ∧ (37 : Int) ≤ (↑maxLen : Int))) (
    .chk ((List.replicate (Int.toNat (37 : Int)) (⟨(0 : Int), (0 : Int)⟩ : api_Tally)).length == (List.replicate (Int.toNat (37 : Int)) (⟨(0 : Int), (0 : Int)⟩ : api_Tally)).length) (
      .leaf (.inl (List.replicate (Int.toNat (37 : Int)) (⟨(0 : Int), (0 : Int)⟩ : api_Tally)))))
noncomputable def m_assess_Fresh  : Option (List api_Tally) := flow T_assess_Fresh (.b0)
noncomputable def M_assess_Fresh : Mod U := { ts := [], rt := 42, fn := fun x => m_assess_Fresh, ok := by decide }
noncomputable def A_assess_Fresh : Nat → Option (List Nat)
  | _ => none
noncomputable def mods_assess_Fresh : FuncId → Option (Mod U)
  | _ => none
noncomputable def c_assess_Fresh : Code := bodyOf Tryz.f42
noncomputable def sp_assess_Fresh : P_assess_Fresh → Spot U
  | .b0  => ⟨c_assess_Fresh, [], entryS [] () 2, false⟩
theorem blk_assess_Fresh : ∀ p, Le.runT (EV Tryz.prog gl 42 mods_assess_Fresh noH) (mdlOf mods_assess_Fresh noH) A_assess_Fresh 42 Tryz.f42 0 (doneP (EV Tryz.prog gl 42 mods_assess_Fresh noH) Tryz.f42) 1000 (.run (sp_assess_Fresh p).c) (sp_assess_Fresh p).K (sp_assess_Fresh p).st (sp_assess_Fresh p).sk = (T_assess_Fresh p).map (leafOf (outP (U := U) 42) sp_assess_Fresh)
  | .b0  => by kernel_rfl
theorem ok_assess_Fresh : FnOK Tryz.prog B0 42 M_assess_Fresh := by
  refine fn_flow rfl (univ_ok _ rfl) mix_ok (fn := Tryz.f42) (c := c_assess_Fresh) (mods := mods_assess_Fresh) (hmods := noH) ?_ (fun g k m h => by cases h) Tryz.func42 (by kernel_rfl) (by kernel_rfl) (by kernel_rfl) M_assess_Fresh T_assess_Fresh sp_assess_Fresh blk_assess_Fresh (fun x => .b0) (fun x => rfl) (fun x => rfl)
  intro g m h
  cases h

/-! wireless/link.New -/
inductive P_link_New where
  | b0 (a0 : Int) (a1 : api_ConnParams) (a2 : Int) (a3 : Int) (a4 : Int) (a5 : Int)
  | b1 (a0 : api_Link)
  | b2 (a0 : Int) (a1 : Int) (a2 : Int) (a3 : Int) (a4 : Int) (a5 : api_ConnParams) (a6 : api_Link)
  | b3 (a0 : api_Link)
  | b4 (a0 : Int) (a1 : Int) (a2 : Int) (a3 : Int) (a4 : Int) (a5 : api_ConnParams) (a6 : api_Link)
  | b5 (a0 : Int) (a1 : api_ConnParams) (a2 : api_Link) (a3 : api_Link)
noncomputable def T_link_New : P_link_New → Tr U ((api_Link × Int) ⊕ P_link_New)
  | .b0 a0 a1 a2 a3 a4 a5 => .br (a0 != (0 : Int)) (
    .br (a0 != (1 : Int)) (
      .leaf (.inr (.b1 z_api_Link))) (
      .leaf (.inr (.b2 a0 a2 a3 a4 a5 a1 z_api_Link)))) (
    .leaf (.inr (.b2 a0 a2 a3 a4 a5 a1 z_api_Link)))
  | .b1 a0 => .leaf (.inl (z_api_Link, (1 : Int)))
  | .b2 a0 a1 a2 a3 a4 a5 a6 => .bind 45 (m_connect_Check a5) (fun (x1 : Int) => 
    .br (x1 != (0 : Int)) (
      .leaf (.inl (z_api_Link, x1))) (
      .br (decide (a1 < (0 : Int))) (
        .leaf (.inr (.b3 a6))) (
        .br (decide (a1 > (500 : Int))) (
          .leaf (.inr (.b3 a6))) (
          .br (decide (a4 < (0 : Int))) (
            .leaf (.inr (.b3 a6))) (
            .br (decide (a4 > (1099511627776 : Int))) (
              .leaf (.inr (.b3 a6))) (
              .leaf (.inr (.b4 a0 a1 a2 a3 a4 a5 a6))))))))
  | .b3 a0 => .leaf (.inl (z_api_Link, (5 : Int)))
  | .b4 a0 a1 a2 a3 a4 a5 a6 => .bind 52 (m_connect_First a4 a5.Update) (fun (x1 : api_Window) => 
    .br (a0 == (1 : Int)) (
      .leaf (.inr (.b5 a0 a5 a6 (⟨a0, a5, a1, (0 : Int), (0 : Int), x1.Start, (w64 (x1.End - x1.Start)), a4, a4, false, false, false, false, false, z_api_Arq, z_api_Listening, z_api_Procs, z_api_Session, a2, [], [], (0 : Int), a3⟩ : api_Link)))) (
      .leaf (.inr (.b5 a0 a5 a6 (⟨a0, a5, a1, (0 : Int), (0 : Int), x1.Start, (0 : Int), a4, a4, false, false, false, false, false, z_api_Arq, z_api_Listening, z_api_Procs, z_api_Session, a2, [], [], (0 : Int), a3⟩ : api_Link)))))
  | .b5 a0 a1 a2 a3 => .bind 33 (m_arq_New) (fun (x1 : api_Arq) => 
    .bind 35 (m_latency_New a1.Update.Latency) (fun (x2 : api_Listening) => 
      .bind 39 (m_procedure_New a0 (63 : Int) (251 : Int)) (fun (x3 : api_Procs) => 
        .bind 42 (m_assess_Fresh) (fun (x4 : List api_Tally) => 
          .leaf (.inl ((⟨a3.Role, a3.Params, a3.Clock, a3.Event, a3.Last, a3.Anchor, a3.Size, a3.Sync, a3.Heard, a3.Begun, a3.Got, a3.Good, a3.Acked, a3.More, x1, x2, x3, a3.Session, a3.Key, x4, [], a3.Reason, a3.Seed⟩ : api_Link), (0 : Int)))))))
noncomputable def m_link_New (a0 : Int) (a1 : api_ConnParams) (a2 : Int) (a3 : Int) (a4 : Int) (a5 : Int) : Option (api_Link × Int) := flow T_link_New (.b0 a0 a1 a2 a3 a4 a5)
noncomputable def M_link_New : Mod U := { ts := [3, 28, 3, 29, 25, 3], rt := 46, fn := fun x => m_link_New x.1 x.2.1 x.2.2.1 x.2.2.2.1 x.2.2.2.2.1 x.2.2.2.2.2.1, ok := by decide }
noncomputable def A_link_New : Nat → Option (List Nat)
  | 2 => some [12]
  | 3 => some [0, 2, 3, 4, 5, 7, 12]
  | 7 => some [12]
  | 8 => some [0, 2, 3, 4, 5, 7, 12]
  | 13 => some [0, 7, 12, 15]
  | _ => none
noncomputable def mods_link_New : FuncId → Option (Mod U)
  | 37 => some M_connect_Check
  | 38 => some M_connect_First
  | 39 => some M_arq_New
  | 40 => some M_latency_New
  | 41 => some M_procedure_New
  | 42 => some M_assess_Fresh
  | _ => none
noncomputable def c_link_New : Code := bodyOf Tryz.f11
noncomputable def sp_link_New : P_link_New → Spot U
  | .b0 a0 a1 a2 a3 a4 a5 => ⟨c_link_New, [], entryS [3, 28, 3, 29, 25, 3] (a0, a1, a2, a3, a4, a5, ()) 81, false⟩
  | .b1 a0 => ⟨(nav c_link_New [1, 0, 1, 0, 0] []).1, (nav c_link_New [1, 0, 1, 0, 0] []).2, ⟨[.und, .und, .und, .und, .und, .und, .und, .und, .und, .und, .und, .und, .ptr 0 0 0 1, .und, .und, .und, .und, .und, .und, .und, .und, .und, .und, .und, .und, .und, .und, .und, .und, .und, .und, .und, .und, .und, .und, .und, .und, .und, .und, .und, .und, .und, .und, .und, .und, .und, .und, .und, .und, .und, .und, .und, .und, .und, .und, .und, .und, .und, .und, .und, .und, .und, .und, .und, .und, .und, .und, .und, .und, .und, .und, .und, .und, .und, .und, .und, .und, .und, .und, .und, .und], [.var 44 66 (.agg [.si .i64 a0.Role, .si .u32 a0.Params.Access, .si .u32 a0.Params.Init, .si .i64 a0.Params.Update.WinSize, .si .i64 a0.Params.Update.WinOffset, .si .i64 a0.Params.Update.Interval, .si .i64 a0.Params.Update.Latency, .si .i64 a0.Params.Update.Timeout, .si .u64 a0.Params.Map, .si .i64 a0.Params.Hop, .si .i64 a0.Params.PPM, .si .i64 a0.Params.Algorithm, .si .i64 a0.Clock, .si .u16 a0.Event, .si .i64 a0.Last, .si .i64 a0.Anchor, .si .i64 a0.Size, .si .i64 a0.Sync, .si .i64 a0.Heard, .sb a0.Begun, .sb a0.Got, .sb a0.Good, .sb a0.Acked, .sb a0.More, .si .i64 a0.Arq.SN, .si .i64 a0.Arq.NESN, .nil 0, .sb a0.Arq.Open, .sb a0.Arq.Empty, .si .i64 a0.Arq.Acked, .si .i64 a0.Arq.Taken, .si .i64 a0.Listen.Latency, .si .i64 a0.Listen.Skipped, .sb a0.Listen.Full, .si .i64 a0.Procs.Role, .si .i64 a0.Procs.Own, .si .i64 a0.Procs.Since, .nil 0, .si .i64 a0.Procs.Other, .si .i64 a0.Procs.OtherTime, .nil 0, .sb a0.Procs.Told, .si .u64 a0.Procs.Features, .si .u64 a0.Procs.Common, .sb a0.Procs.Known, .sb a0.Procs.VersionTx, .si .i64 a0.Procs.Version, .si .i64 a0.Procs.Length, .si .i64 a0.Procs.Limit, .si .u64 a0.Procs.Salt, .si .u64 a0.Procs.Peer, .si .u64 a0.Procs.Mark, .si .i64 a0.Procs.Crypt, .si .i64 a0.Procs.Ended, .si .i64 a0.Session.Role, .si .u64 a0.Session.Key, .si .u64 a0.Session.Salt, .sb a0.Session.TxOn, .sb a0.Session.RxOn, .si .u64 a0.Session.Tx, .si .u64 a0.Session.Rx, .si .u64 a0.Key, .nil 0, .nil 0, .si .i64 a0.Reason, .si .u64 a0.Seed])]⟩, true⟩
  | .b2 a0 a1 a2 a3 a4 a5 a6 => ⟨(nav c_link_New [1, 1, 0, 0] []).1, (nav c_link_New [1, 1, 0, 0] []).2, ⟨[.si .i64 a0, .und, .si .i64 a1, .si .u64 a2, .si .u64 a3, .si .i64 a4, .und, .ptr 0 0 0 1, .und, .und, .und, .und, .ptr 1 0 0 1, .und, .und, .und, .und, .und, .und, .und, .und, .und, .und, .und, .und, .und, .und, .und, .und, .und, .und, .und, .und, .und, .und, .und, .und, .und, .und, .und, .und, .und, .und, .und, .und, .und, .und, .und, .und, .und, .und, .und, .und, .und, .und, .und, .und, .und, .und, .und, .und, .und, .und, .und, .und, .und, .und, .und, .und, .und, .und, .und, .und, .und, .und, .und, .und, .und, .und, .und, .und], [.var 28 11 (U.encS 28 a5), .var 44 66 (.agg [.si .i64 a6.Role, .si .u32 a6.Params.Access, .si .u32 a6.Params.Init, .si .i64 a6.Params.Update.WinSize, .si .i64 a6.Params.Update.WinOffset, .si .i64 a6.Params.Update.Interval, .si .i64 a6.Params.Update.Latency, .si .i64 a6.Params.Update.Timeout, .si .u64 a6.Params.Map, .si .i64 a6.Params.Hop, .si .i64 a6.Params.PPM, .si .i64 a6.Params.Algorithm, .si .i64 a6.Clock, .si .u16 a6.Event, .si .i64 a6.Last, .si .i64 a6.Anchor, .si .i64 a6.Size, .si .i64 a6.Sync, .si .i64 a6.Heard, .sb a6.Begun, .sb a6.Got, .sb a6.Good, .sb a6.Acked, .sb a6.More, .si .i64 a6.Arq.SN, .si .i64 a6.Arq.NESN, .nil 0, .sb a6.Arq.Open, .sb a6.Arq.Empty, .si .i64 a6.Arq.Acked, .si .i64 a6.Arq.Taken, .si .i64 a6.Listen.Latency, .si .i64 a6.Listen.Skipped, .sb a6.Listen.Full, .si .i64 a6.Procs.Role, .si .i64 a6.Procs.Own, .si .i64 a6.Procs.Since, .nil 0, .si .i64 a6.Procs.Other, .si .i64 a6.Procs.OtherTime, .nil 0, .sb a6.Procs.Told, .si .u64 a6.Procs.Features, .si .u64 a6.Procs.Common, .sb a6.Procs.Known, .sb a6.Procs.VersionTx, .si .i64 a6.Procs.Version, .si .i64 a6.Procs.Length, .si .i64 a6.Procs.Limit, .si .u64 a6.Procs.Salt, .si .u64 a6.Procs.Peer, .si .u64 a6.Procs.Mark, .si .i64 a6.Procs.Crypt, .si .i64 a6.Procs.Ended, .si .i64 a6.Session.Role, .si .u64 a6.Session.Key, .si .u64 a6.Session.Salt, .sb a6.Session.TxOn, .sb a6.Session.RxOn, .si .u64 a6.Session.Tx, .si .u64 a6.Session.Rx, .si .u64 a6.Key, .nil 0, .nil 0, .si .i64 a6.Reason, .si .u64 a6.Seed])]⟩, true⟩
  | .b3 a0 => ⟨(nav c_link_New [1, 1, 1, 0, 1, 0, 0] []).1, (nav c_link_New [1, 1, 1, 0, 1, 0, 0] []).2, ⟨[.und, .und, .und, .und, .und, .und, .und, .und, .und, .und, .und, .und, .ptr 0 0 0 1, .und, .und, .und, .und, .und, .und, .und, .und, .und, .und, .und, .und, .und, .und, .und, .und, .und, .und, .und, .und, .und, .und, .und, .und, .und, .und, .und, .und, .und, .und, .und, .und, .und, .und, .und, .und, .und, .und, .und, .und, .und, .und, .und, .und, .und, .und, .und, .und, .und, .und, .und, .und, .und, .und, .und, .und, .und, .und, .und, .und, .und, .und, .und, .und, .und, .und, .und, .und], [.var 44 66 (.agg [.si .i64 a0.Role, .si .u32 a0.Params.Access, .si .u32 a0.Params.Init, .si .i64 a0.Params.Update.WinSize, .si .i64 a0.Params.Update.WinOffset, .si .i64 a0.Params.Update.Interval, .si .i64 a0.Params.Update.Latency, .si .i64 a0.Params.Update.Timeout, .si .u64 a0.Params.Map, .si .i64 a0.Params.Hop, .si .i64 a0.Params.PPM, .si .i64 a0.Params.Algorithm, .si .i64 a0.Clock, .si .u16 a0.Event, .si .i64 a0.Last, .si .i64 a0.Anchor, .si .i64 a0.Size, .si .i64 a0.Sync, .si .i64 a0.Heard, .sb a0.Begun, .sb a0.Got, .sb a0.Good, .sb a0.Acked, .sb a0.More, .si .i64 a0.Arq.SN, .si .i64 a0.Arq.NESN, .nil 0, .sb a0.Arq.Open, .sb a0.Arq.Empty, .si .i64 a0.Arq.Acked, .si .i64 a0.Arq.Taken, .si .i64 a0.Listen.Latency, .si .i64 a0.Listen.Skipped, .sb a0.Listen.Full, .si .i64 a0.Procs.Role, .si .i64 a0.Procs.Own, .si .i64 a0.Procs.Since, .nil 0, .si .i64 a0.Procs.Other, .si .i64 a0.Procs.OtherTime, .nil 0, .sb a0.Procs.Told, .si .u64 a0.Procs.Features, .si .u64 a0.Procs.Common, .sb a0.Procs.Known, .sb a0.Procs.VersionTx, .si .i64 a0.Procs.Version, .si .i64 a0.Procs.Length, .si .i64 a0.Procs.Limit, .si .u64 a0.Procs.Salt, .si .u64 a0.Procs.Peer, .si .u64 a0.Procs.Mark, .si .i64 a0.Procs.Crypt, .si .i64 a0.Procs.Ended, .si .i64 a0.Session.Role, .si .u64 a0.Session.Key, .si .u64 a0.Session.Salt, .sb a0.Session.TxOn, .sb a0.Session.RxOn, .si .u64 a0.Session.Tx, .si .u64 a0.Session.Rx, .si .u64 a0.Key, .nil 0, .nil 0, .si .i64 a0.Reason, .si .u64 a0.Seed])]⟩, true⟩
  | .b4 a0 a1 a2 a3 a4 a5 a6 => ⟨(nav c_link_New [1, 1, 1, 1, 0] []).1, (nav c_link_New [1, 1, 1, 1, 0] []).2, ⟨[.si .i64 a0, .und, .si .i64 a1, .si .u64 a2, .si .u64 a3, .si .i64 a4, .und, .ptr 0 0 0 1, .und, .und, .und, .und, .ptr 1 0 0 1, .und, .und, .und, .und, .und, .und, .und, .und, .und, .und, .und, .und, .und, .und, .und, .und, .und, .und, .und, .und, .und, .und, .und, .und, .und, .und, .und, .und, .und, .und, .und, .und, .und, .und, .und, .und, .und, .und, .und, .und, .und, .und, .und, .und, .und, .und, .und, .und, .und, .und, .und, .und, .und, .und, .und, .und, .und, .und, .und, .und, .und, .und, .und, .und, .und, .und, .und, .und], [.var 28 11 (U.encS 28 a5), .var 44 66 (.agg [.si .i64 a6.Role, .si .u32 a6.Params.Access, .si .u32 a6.Params.Init, .si .i64 a6.Params.Update.WinSize, .si .i64 a6.Params.Update.WinOffset, .si .i64 a6.Params.Update.Interval, .si .i64 a6.Params.Update.Latency, .si .i64 a6.Params.Update.Timeout, .si .u64 a6.Params.Map, .si .i64 a6.Params.Hop, .si .i64 a6.Params.PPM, .si .i64 a6.Params.Algorithm, .si .i64 a6.Clock, .si .u16 a6.Event, .si .i64 a6.Last, .si .i64 a6.Anchor, .si .i64 a6.Size, .si .i64 a6.Sync, .si .i64 a6.Heard, .sb a6.Begun, .sb a6.Got, .sb a6.Good, .sb a6.Acked, .sb a6.More, .si .i64 a6.Arq.SN, .si .i64 a6.Arq.NESN, .nil 0, .sb a6.Arq.Open, .sb a6.Arq.Empty, .si .i64 a6.Arq.Acked, .si .i64 a6.Arq.Taken, .si .i64 a6.Listen.Latency, .si .i64 a6.Listen.Skipped, .sb a6.Listen.Full, .si .i64 a6.Procs.Role, .si .i64 a6.Procs.Own, .si .i64 a6.Procs.Since, .nil 0, .si .i64 a6.Procs.Other, .si .i64 a6.Procs.OtherTime, .nil 0, .sb a6.Procs.Told, .si .u64 a6.Procs.Features, .si .u64 a6.Procs.Common, .sb a6.Procs.Known, .sb a6.Procs.VersionTx, .si .i64 a6.Procs.Version, .si .i64 a6.Procs.Length, .si .i64 a6.Procs.Limit, .si .u64 a6.Procs.Salt, .si .u64 a6.Procs.Peer, .si .u64 a6.Procs.Mark, .si .i64 a6.Procs.Crypt, .si .i64 a6.Procs.Ended, .si .i64 a6.Session.Role, .si .u64 a6.Session.Key, .si .u64 a6.Session.Salt, .sb a6.Session.TxOn, .sb a6.Session.RxOn, .si .u64 a6.Session.Tx, .si .u64 a6.Session.Rx, .si .u64 a6.Key, .nil 0, .nil 0, .si .i64 a6.Reason, .si .u64 a6.Seed])]⟩, true⟩
  | .b5 a0 a1 a2 a3 => ⟨(nav c_link_New [1, 1, 1, 1, 1, 1, 1, 1, 0] []).1, (nav c_link_New [1, 1, 1, 1, 1, 1, 1, 1, 0] []).2, ⟨[.si .i64 a0, .und, .und, .und, .und, .und, .und, .ptr 0 0 0 1, .und, .und, .und, .und, .ptr 1 0 0 1, .und, .und, .ptr 2 0 0 1, .und, .und, .und, .und, .und, .und, .und, .und, .und, .und, .und, .und, .und, .und, .und, .und, .und, .und, .und, .und, .und, .und, .und, .und, .und, .und, .und, .und, .und, .und, .und, .und, .und, .und, .und, .und, .und, .und, .und, .und, .und, .und, .und, .und, .und, .und, .und, .und, .und, .und, .und, .und, .und, .und, .und, .und, .und, .und, .und, .und, .und, .und, .und, .und, .und], [.var 28 11 (U.encS 28 a1), .var 44 66 (.agg [.si .i64 a2.Role, .si .u32 a2.Params.Access, .si .u32 a2.Params.Init, .si .i64 a2.Params.Update.WinSize, .si .i64 a2.Params.Update.WinOffset, .si .i64 a2.Params.Update.Interval, .si .i64 a2.Params.Update.Latency, .si .i64 a2.Params.Update.Timeout, .si .u64 a2.Params.Map, .si .i64 a2.Params.Hop, .si .i64 a2.Params.PPM, .si .i64 a2.Params.Algorithm, .si .i64 a2.Clock, .si .u16 a2.Event, .si .i64 a2.Last, .si .i64 a2.Anchor, .si .i64 a2.Size, .si .i64 a2.Sync, .si .i64 a2.Heard, .sb a2.Begun, .sb a2.Got, .sb a2.Good, .sb a2.Acked, .sb a2.More, .si .i64 a2.Arq.SN, .si .i64 a2.Arq.NESN, .nil 0, .sb a2.Arq.Open, .sb a2.Arq.Empty, .si .i64 a2.Arq.Acked, .si .i64 a2.Arq.Taken, .si .i64 a2.Listen.Latency, .si .i64 a2.Listen.Skipped, .sb a2.Listen.Full, .si .i64 a2.Procs.Role, .si .i64 a2.Procs.Own, .si .i64 a2.Procs.Since, .nil 0, .si .i64 a2.Procs.Other, .si .i64 a2.Procs.OtherTime, .nil 0, .sb a2.Procs.Told, .si .u64 a2.Procs.Features, .si .u64 a2.Procs.Common, .sb a2.Procs.Known, .sb a2.Procs.VersionTx, .si .i64 a2.Procs.Version, .si .i64 a2.Procs.Length, .si .i64 a2.Procs.Limit, .si .u64 a2.Procs.Salt, .si .u64 a2.Procs.Peer, .si .u64 a2.Procs.Mark, .si .i64 a2.Procs.Crypt, .si .i64 a2.Procs.Ended, .si .i64 a2.Session.Role, .si .u64 a2.Session.Key, .si .u64 a2.Session.Salt, .sb a2.Session.TxOn, .sb a2.Session.RxOn, .si .u64 a2.Session.Tx, .si .u64 a2.Session.Rx, .si .u64 a2.Key, .nil 0, .nil 0, .si .i64 a2.Reason, .si .u64 a2.Seed]), .var 44 66 (.agg [.si .i64 a3.Role, .si .u32 a3.Params.Access, .si .u32 a3.Params.Init, .si .i64 a3.Params.Update.WinSize, .si .i64 a3.Params.Update.WinOffset, .si .i64 a3.Params.Update.Interval, .si .i64 a3.Params.Update.Latency, .si .i64 a3.Params.Update.Timeout, .si .u64 a3.Params.Map, .si .i64 a3.Params.Hop, .si .i64 a3.Params.PPM, .si .i64 a3.Params.Algorithm, .si .i64 a3.Clock, .si .u16 a3.Event, .si .i64 a3.Last, .si .i64 a3.Anchor, .si .i64 a3.Size, .si .i64 a3.Sync, .si .i64 a3.Heard, .sb a3.Begun, .sb a3.Got, .sb a3.Good, .sb a3.Acked, .sb a3.More, .si .i64 a3.Arq.SN, .si .i64 a3.Arq.NESN, .nil 0, .sb a3.Arq.Open, .sb a3.Arq.Empty, .si .i64 a3.Arq.Acked, .si .i64 a3.Arq.Taken, .si .i64 a3.Listen.Latency, .si .i64 a3.Listen.Skipped, .sb a3.Listen.Full, .si .i64 a3.Procs.Role, .si .i64 a3.Procs.Own, .si .i64 a3.Procs.Since, .nil 0, .si .i64 a3.Procs.Other, .si .i64 a3.Procs.OtherTime, .nil 0, .sb a3.Procs.Told, .si .u64 a3.Procs.Features, .si .u64 a3.Procs.Common, .sb a3.Procs.Known, .sb a3.Procs.VersionTx, .si .i64 a3.Procs.Version, .si .i64 a3.Procs.Length, .si .i64 a3.Procs.Limit, .si .u64 a3.Procs.Salt, .si .u64 a3.Procs.Peer, .si .u64 a3.Procs.Mark, .si .i64 a3.Procs.Crypt, .si .i64 a3.Procs.Ended, .si .i64 a3.Session.Role, .si .u64 a3.Session.Key, .si .u64 a3.Session.Salt, .sb a3.Session.TxOn, .sb a3.Session.RxOn, .si .u64 a3.Session.Tx, .si .u64 a3.Session.Rx, .si .u64 a3.Key, .nil 0, .nil 0, .si .i64 a3.Reason, .si .u64 a3.Seed])]⟩, true⟩
theorem blk_link_New : ∀ p, Le.runT (EV Tryz.prog gl 11 mods_link_New noH) (mdlOf mods_link_New noH) A_link_New 11 Tryz.f11 0 (doneP (EV Tryz.prog gl 11 mods_link_New noH) Tryz.f11) 1000 (.run (sp_link_New p).c) (sp_link_New p).K (sp_link_New p).st (sp_link_New p).sk = (T_link_New p).map (leafOf (outP (U := U) 46) sp_link_New)
  | .b0 a0 a1 a2 a3 a4 a5 => by kernel_rfl
  | .b1 a0 => by kernel_rfl
  | .b2 a0 a1 a2 a3 a4 a5 a6 => by kernel_rfl
  | .b3 a0 => by kernel_rfl
  | .b4 a0 a1 a2 a3 a4 a5 a6 => by kernel_rfl
  | .b5 a0 a1 a2 a3 => by kernel_rfl
theorem ok_link_New : FnOK Tryz.prog B0 11 M_link_New := by
  refine fn_flow rfl (univ_ok _ rfl) mix_ok (fn := Tryz.f11) (c := c_link_New) (mods := mods_link_New) (hmods := noH) ?_ (fun g k m h => by cases h) Tryz.func11 (by kernel_rfl) (by kernel_rfl) (by kernel_rfl) M_link_New T_link_New sp_link_New blk_link_New (fun x => .b0 x.1 x.2.1 x.2.2.1 x.2.2.2.1 x.2.2.2.2.1 x.2.2.2.2.2.1) (fun x => rfl) (fun x => rfl)
  intro g m h
  unfold mods_link_New at h
  split at h <;> cases h
  · exact ok_connect_Check
  · exact ok_connect_First
  · exact ok_arq_New
  · exact ok_latency_New
  · exact ok_procedure_New
  · exact ok_assess_Fresh

/-! wireless/wirelessref17.within -/
inductive P_r17_within where
  | b0 (a0 : Int) (a1 : Int) (a2 : Int)
noncomputable def T_r17_within : P_r17_within → Tr U (Bool ⊕ P_r17_within)
  | .b0 a0 a1 a2 => .br (decide (a0 ≥ a1)) (
    .leaf (.inl (decide (a0 ≤ a2)))) (
    .leaf (.inl false))
noncomputable def m_r17_within (a0 : Int) (a1 : Int) (a2 : Int) : Option Bool := flow T_r17_within (.b0 a0 a1 a2)
noncomputable def M_r17_within : Mod U := { ts := [3, 3, 3], rt := 4, fn := fun x => m_r17_within x.1 x.2.1 x.2.2.1, ok := by decide }
noncomputable def A_r17_within : Nat → Option (List Nat)
  | _ => none
noncomputable def mods_r17_within : FuncId → Option (Mod U)
  | _ => none
noncomputable def c_r17_within : Code := bodyOf Tryz.f129
noncomputable def sp_r17_within : P_r17_within → Spot U
  | .b0 a0 a1 a2 => ⟨c_r17_within, [], entryS [3, 3, 3] (a0, a1, a2, ()) 15, false⟩
theorem blk_r17_within : ∀ p, Le.runT (EV Tryz.prog gl 129 mods_r17_within noH) (mdlOf mods_r17_within noH) A_r17_within 129 Tryz.f129 0 (doneP (EV Tryz.prog gl 129 mods_r17_within noH) Tryz.f129) 1000 (.run (sp_r17_within p).c) (sp_r17_within p).K (sp_r17_within p).st (sp_r17_within p).sk = (T_r17_within p).map (leafOf (outP (U := U) 4) sp_r17_within)
  | .b0 a0 a1 a2 => by kernel_rfl
theorem ok_r17_within : FnOK Tryz.prog B0 129 M_r17_within := by
  refine fn_flow rfl (univ_ok _ rfl) mix_ok (fn := Tryz.f129) (c := c_r17_within) (mods := mods_r17_within) (hmods := noH) ?_ (fun g k m h => by cases h) Tryz.func129 (by kernel_rfl) (by kernel_rfl) (by kernel_rfl) M_r17_within T_r17_within sp_r17_within blk_r17_within (fun x => .b0 x.1 x.2.1 x.2.2.1) (fun x => rfl) (fun x => rfl)
  intro g m h
  cases h

/-! wireless/wirelessref17.CheckUpdate -/
inductive P_r17_CheckUpdate where
  | b0 (a0 : api_Update)
  | b1 (a0 : api_Update)
noncomputable def T_r17_CheckUpdate : P_r17_CheckUpdate → Tr U (Int ⊕ P_r17_CheckUpdate)
  | .b0 a0 => .bind 4 (m_r17_within a0.WinSize (1 : Int) (8 : Int)) (fun (x1 : Bool) => 
    .br (!x1) (
      .leaf (.inl (5 : Int))) (
      .bind 4 (m_r17_within a0.WinOffset (0 : Int) (3200 : Int)) (fun (x2 : Bool) => 
        .br (!x2) (
          .leaf (.inl (5 : Int))) (
          .bind 4 (m_r17_within a0.Interval (6 : Int) (3200 : Int)) (fun (x3 : Bool) => 
            .br (!x3) (
              .leaf (.inl (5 : Int))) (
              .bind 4 (m_r17_within a0.Latency (0 : Int) (499 : Int)) (fun (x4 : Bool) => 
                .br (!x4) (
                  .leaf (.inl (5 : Int))) (
                  .bind 4 (m_r17_within a0.Timeout (10 : Int) (3200 : Int)) (fun (x5 : Bool) => 
                    .br (!x5) (
                      .leaf (.inl (5 : Int))) (
                      .leaf (.inr (.b1 a0))))))))))))
  | .b1 a0 => .br (decide (a0.WinSize ≥ a0.Interval)) (
    .leaf (.inl (11 : Int))) (
    .br (decide (a0.WinOffset > a0.Interval)) (
      .leaf (.inl (11 : Int))) (
      .br (decide ((w64 (a0.Timeout * (10000 : Int))) ≤ (w64 ((w64 ((w64 ((2 : Int) * (w64 (a0.Latency + (1 : Int))))) * a0.Interval)) * (1250 : Int))))) (
        .leaf (.inl (11 : Int))) (
        .leaf (.inl (0 : Int)))))
noncomputable def m_r17_CheckUpdate (a0 : api_Update) : Option Int := flow T_r17_CheckUpdate (.b0 a0)
noncomputable def M_r17_CheckUpdate : Mod U := { ts := [24], rt := 45, fn := fun x => m_r17_CheckUpdate x.1, ok := by decide }
noncomputable def A_r17_CheckUpdate : Nat → Option (List Nat)
  | 3 => some [1]
  | _ => none
noncomputable def mods_r17_CheckUpdate : FuncId → Option (Mod U)
  | 129 => some M_r17_within
  | _ => none
noncomputable def c_r17_CheckUpdate : Code := bodyOf Tryz.f127
noncomputable def sp_r17_CheckUpdate : P_r17_CheckUpdate → Spot U
  | .b0 a0 => ⟨c_r17_CheckUpdate, [], entryS [24] (a0, ()) 57, false⟩
  | .b1 a0 => ⟨(nav c_r17_CheckUpdate [1, 1, 0, 0] []).1, (nav c_r17_CheckUpdate [1, 1, 0, 0] []).2, ⟨[.und, .ptr 0 0 0 1, .und, .und, .und, .und, .und, .und, .und, .und, .und, .und, .und, .und, .und, .und, .und, .und, .und, .und, .und, .und, .und, .und, .und, .und, .und, .und, .und, .und, .und, .und, .und, .und, .und, .und, .und, .und, .und, .und, .und, .und, .und, .und, .und, .und, .und, .und, .und, .und, .und, .und, .und, .und, .und, .und, .und], [.var 24 5 (U.encS 24 a0)]⟩, true⟩
theorem blk_r17_CheckUpdate : ∀ p, Le.runT (EV Tryz.prog gl 127 mods_r17_CheckUpdate noH) (mdlOf mods_r17_CheckUpdate noH) A_r17_CheckUpdate 127 Tryz.f127 0 (doneP (EV Tryz.prog gl 127 mods_r17_CheckUpdate noH) Tryz.f127) 1000 (.run (sp_r17_CheckUpdate p).c) (sp_r17_CheckUpdate p).K (sp_r17_CheckUpdate p).st (sp_r17_CheckUpdate p).sk = (T_r17_CheckUpdate p).map (leafOf (outP (U := U) 45) sp_r17_CheckUpdate)
  | .b0 a0 => by kernel_rfl
  | .b1 a0 => by kernel_rfl
theorem ok_r17_CheckUpdate : FnOK Tryz.prog B0 127 M_r17_CheckUpdate := by
  refine fn_flow rfl (univ_ok _ rfl) mix_ok (fn := Tryz.f127) (c := c_r17_CheckUpdate) (mods := mods_r17_CheckUpdate) (hmods := noH) ?_ (fun g k m h => by cases h) Tryz.func127 (by kernel_rfl) (by kernel_rfl) (by kernel_rfl) M_r17_CheckUpdate T_r17_CheckUpdate sp_r17_CheckUpdate blk_r17_CheckUpdate (fun x => .b0 x.1) (fun x => rfl) (fun x => rfl)
  intro g m h
  unfold mods_r17_CheckUpdate at h
  split at h <;> cases h
  · exact ok_r17_within

/-! wireless/wirelessref01.Power -/
inductive P_r01_Power where
  | b0 (a0 : Int)
  | b1 (a0 : Int) (a1 : Int) (a2 : Int)
noncomputable def T_r01_Power : P_r01_Power → Tr U (Int ⊕ P_r01_Power)
  | .b0 a0 => .leaf (.inr (.b1 a0 (1 : Int) (0 : Int)))
  | .b1 a0 a1 a2 => .br (decide (a2 < a0)) (
    .leaf (.inr (.b1 a0 (IntKind.wrap .u64 (a1 * (2 : Int))) (w64 (a2 + (1 : Int)))))) (
    .leaf (.inl a1))
noncomputable def m_r01_Power (a0 : Int) : Option Int := flow T_r01_Power (.b0 a0)
noncomputable def M_r01_Power : Mod U := { ts := [3], rt := 25, fn := fun x => m_r01_Power x.1, ok := by decide }
noncomputable def A_r01_Power : Nat → Option (List Nat)
  | 3 => some [0, 3, 4]
  | _ => none
noncomputable def mods_r01_Power : FuncId → Option (Mod U)
  | _ => none
noncomputable def c_r01_Power : Code := bodyOf Tryz.f220
noncomputable def sp_r01_Power : P_r01_Power → Spot U
  | .b0 a0 => ⟨c_r01_Power, [], entryS [3] (a0, ()) 13, false⟩
  | .b1 a0 a1 a2 => ⟨(nav c_r01_Power [1, 1, 0, 1, 0, 0, 0, 0] []).1, (nav c_r01_Power [1, 1, 0, 1, 0, 0, 0, 0] []).2, ⟨[.si .i64 a0, .und, .und, .si .u64 a1, .si .i64 a2, .und, .und, .und, .und, .und, .und, .und, .und], []⟩, true⟩
theorem blk_r01_Power : ∀ p, Le.runT (EV Tryz.prog gl 220 mods_r01_Power noH) (mdlOf mods_r01_Power noH) A_r01_Power 220 Tryz.f220 0 (doneP (EV Tryz.prog gl 220 mods_r01_Power noH) Tryz.f220) 1000 (.run (sp_r01_Power p).c) (sp_r01_Power p).K (sp_r01_Power p).st (sp_r01_Power p).sk = (T_r01_Power p).map (leafOf (outP (U := U) 25) sp_r01_Power)
  | .b0 a0 => by kernel_rfl
  | .b1 a0 a1 a2 => by kernel_rfl
theorem ok_r01_Power : FnOK Tryz.prog B0 220 M_r01_Power := by
  refine fn_flow rfl (univ_ok _ rfl) mix_ok (fn := Tryz.f220) (c := c_r01_Power) (mods := mods_r01_Power) (hmods := noH) ?_ (fun g k m h => by cases h) Tryz.func220 (by kernel_rfl) (by kernel_rfl) (by kernel_rfl) M_r01_Power T_r01_Power sp_r01_Power blk_r01_Power (fun x => .b0 x.1) (fun x => rfl) (fun x => rfl)
  intro g m h
  cases h

end Go.Proofs.YtjodhcdmhobmoaaGreatDoor
