/-
  Functions of the program as functions of Lean (printed by a program of mine).
-/
import Derived.Test.YtjodhcdmhobmoaaGreatDoorFa9
namespace Go.Proofs.YtjodhcdmhobmoaaGreatDoor
open Go Go.Proofs.YtjodhcdmhobmoaaGreatDoor.Le
set_option linter.unusedVariables false
set_option maxRecDepth 100000
/-! wireless/clock.Widening -/
inductive P_clock_Widening where
  | b0 (a0 : Int) (a1 : Int)
noncomputable def T_clock_Widening : P_clock_Widening → Tr U (Int ⊕ P_clock_Widening)
  | .b0 a0 a1 => .bind 3 (m_clock_limit a1 (0 : Int) (1099511627776 : Int)) (fun (x1 : Int) => 
    .bind 3 (m_clock_limit a0 (0 : Int) (1000 : Int)) (fun (x2 : Int) => 
      .leaf (.inl (w64 ((w64 (Int.tdiv (w64 ((w64 ((w64 (x1 * x2)) + (1000000 : Int))) - (1 : Int))) (1000000 : Int))) + (32 : Int))))))
noncomputable def m_clock_Widening (a0 : Int) (a1 : Int) : Option Int := flow T_clock_Widening (.b0 a0 a1)
noncomputable def M_clock_Widening : Mod U := { ts := [3, 3], rt := 3, fn := fun x => m_clock_Widening x.1 x.2.1, ok := by decide }
noncomputable def A_clock_Widening : Nat → Option (List Nat)
  | _ => none
noncomputable def mods_clock_Widening : FuncId → Option (Mod U)
  | 143 => some M_clock_limit
  | _ => none
noncomputable def c_clock_Widening : Code := bodyOf Tryz.f55
noncomputable def sp_clock_Widening : P_clock_Widening → Spot U
  | .b0 a0 a1 => ⟨c_clock_Widening, [], entryS [3, 3] (a0, a1, ()) 16, false⟩
theorem blk_clock_Widening : ∀ p, Le.runT (EV Tryz.prog gl 55 mods_clock_Widening noH) (mdlOf mods_clock_Widening noH) A_clock_Widening 55 Tryz.f55 0 (doneP (EV Tryz.prog gl 55 mods_clock_Widening noH) Tryz.f55) 1000 (.run (sp_clock_Widening p).c) (sp_clock_Widening p).K (sp_clock_Widening p).st (sp_clock_Widening p).sk = (T_clock_Widening p).map (leafOf (outP (U := U) 3) sp_clock_Widening)
  | .b0 a0 a1 => by kernel_rfl
theorem ok_clock_Widening : FnOK Tryz.prog B0 55 M_clock_Widening := by
  refine fn_flow rfl (univ_ok _ rfl) mix_ok (fn := Tryz.f55) (c := c_clock_Widening) (mods := mods_clock_Widening) (hmods := noH) ?_ (fun g k m h => by cases h) Tryz.func55 (by kernel_rfl) (by kernel_rfl) (by kernel_rfl) M_clock_Widening T_clock_Widening sp_clock_Widening blk_clock_Widening (fun x => .b0 x.1 x.2.1) (fun x => rfl) (fun x => rfl)
  intro g m h
  unfold mods_clock_Widening at h
  split at h <;> cases h
  · exact ok_clock_limit

/-! wireless/link.Window -/
inductive P_link_Window where
  | b0 (a0 : api_Link)
noncomputable def T_link_Window : P_link_Window → Tr U (api_Window ⊕ P_link_Window)
  | .b0 a0 => .br (a0.Role != (1 : Int)) (
    .leaf (.inl (⟨a0.Anchor, a0.Anchor⟩ : api_Window))) (
    .bind 3 (m_clock_Widening (w64 (a0.Params.PPM + a0.Clock)) (w64 ((w64 (a0.Anchor + a0.Size)) - a0.Sync))) (fun (x1 : Int) => 
      .leaf (.inl (⟨(w64 (a0.Anchor - x1)), (w64 ((w64 (a0.Anchor + a0.Size)) + x1))⟩ : api_Window))))
noncomputable def m_link_Window (a0 : api_Link) : Option api_Window := flow T_link_Window (.b0 a0)
noncomputable def M_link_Window : Mod U := { ts := [44], rt := 52, fn := fun x => m_link_Window x.1, ok := by decide }
noncomputable def A_link_Window : Nat → Option (List Nat)
  | _ => none
noncomputable def mods_link_Window : FuncId → Option (Mod U)
  | 55 => some M_clock_Widening
  | _ => none
noncomputable def c_link_Window : Code := bodyOf Tryz.f17
noncomputable def sp_link_Window : P_link_Window → Spot U
  | .b0 a0 => ⟨c_link_Window, [], entryS [44] (a0, ()) 39, false⟩
theorem blk_link_Window : ∀ p, Le.runT (EV Tryz.prog gl 17 mods_link_Window noH) (mdlOf mods_link_Window noH) A_link_Window 17 Tryz.f17 0 (doneP (EV Tryz.prog gl 17 mods_link_Window noH) Tryz.f17) 1000 (.run (sp_link_Window p).c) (sp_link_Window p).K (sp_link_Window p).st (sp_link_Window p).sk = (T_link_Window p).map (leafOf (outP (U := U) 52) sp_link_Window)
  | .b0 a0 => by kernel_rfl
theorem ok_link_Window : FnOK Tryz.prog B0 17 M_link_Window := by
  refine fn_flow rfl (univ_ok _ rfl) mix_ok (fn := Tryz.f17) (c := c_link_Window) (mods := mods_link_Window) (hmods := noH) ?_ (fun g k m h => by cases h) Tryz.func17 (by kernel_rfl) (by kernel_rfl) (by kernel_rfl) M_link_Window T_link_Window sp_link_Window blk_link_Window (fun x => .b0 x.1) (fun x => rfl) (fun x => rfl)
  intro g m h
  unfold mods_link_Window at h
  split at h <;> cases h
  · exact ok_clock_Widening

/-! wireless/wirelessref11.limited -/
inductive P_r11_limited where
  | b0 (a0 : Int) (a1 : Int) (a2 : Int)
noncomputable def T_r11_limited : P_r11_limited → Tr U (Int ⊕ P_r11_limited)
  | .b0 a0 a1 a2 => .br (decide (a0 < a1)) (
    .leaf (.inl a1)) (
    .br (decide (a0 > a2)) (
      .leaf (.inl a2)) (
      .leaf (.inl a0)))
noncomputable def m_r11_limited (a0 : Int) (a1 : Int) (a2 : Int) : Option Int := flow T_r11_limited (.b0 a0 a1 a2)
noncomputable def M_r11_limited : Mod U := { ts := [3, 3, 3], rt := 3, fn := fun x => m_r11_limited x.1 x.2.1 x.2.2.1, ok := by decide }
noncomputable def A_r11_limited : Nat → Option (List Nat)
  | _ => none
noncomputable def mods_r11_limited : FuncId → Option (Mod U)
  | _ => none
noncomputable def c_r11_limited : Code := bodyOf Tryz.f144
noncomputable def sp_r11_limited : P_r11_limited → Spot U
  | .b0 a0 a1 a2 => ⟨c_r11_limited, [], entryS [3, 3, 3] (a0, a1, a2, ()) 16, false⟩
theorem blk_r11_limited : ∀ p, Le.runT (EV Tryz.prog gl 144 mods_r11_limited noH) (mdlOf mods_r11_limited noH) A_r11_limited 144 Tryz.f144 0 (doneP (EV Tryz.prog gl 144 mods_r11_limited noH) Tryz.f144) 1000 (.run (sp_r11_limited p).c) (sp_r11_limited p).K (sp_r11_limited p).st (sp_r11_limited p).sk = (T_r11_limited p).map (leafOf (outP (U := U) 3) sp_r11_limited)
  | .b0 a0 a1 a2 => by kernel_rfl
theorem ok_r11_limited : FnOK Tryz.prog B0 144 M_r11_limited := by
  refine fn_flow rfl (univ_ok _ rfl) mix_ok (fn := Tryz.f144) (c := c_r11_limited) (mods := mods_r11_limited) (hmods := noH) ?_ (fun g k m h => by cases h) Tryz.func144 (by kernel_rfl) (by kernel_rfl) (by kernel_rfl) M_r11_limited T_r11_limited sp_r11_limited blk_r11_limited (fun x => .b0 x.1 x.2.1 x.2.2.1) (fun x => rfl) (fun x => rfl)
  intro g m h
  cases h

/-! wireless/wirelessref11.Widening -/
inductive P_r11_Widening where
  | b0 (a0 : Int) (a1 : Int)
  | b1 (a0 : Int)
noncomputable def T_r11_Widening : P_r11_Widening → Tr U (Int ⊕ P_r11_Widening)
  | .b0 a0 a1 => .bind 3 (m_r11_limited a1 (0 : Int) (1099511627776 : Int)) (fun (x1 : Int) => 
    .bind 3 (m_r11_limited a0 (0 : Int) (1000 : Int)) (fun (x2 : Int) => 
      .br (decide ((Int.tmod (w64 (x1 * x2)) (1000000 : Int)) > (0 : Int))) (
        .leaf (.inr (.b1 (w64 ((w64 (Int.tdiv (w64 (x1 * x2)) (1000000 : Int))) + (1 : Int)))))) (
        .leaf (.inr (.b1 (w64 (Int.tdiv (w64 (x1 * x2)) (1000000 : Int))))))))
  | .b1 a0 => .leaf (.inl (w64 (a0 + (32 : Int))))
noncomputable def m_r11_Widening (a0 : Int) (a1 : Int) : Option Int := flow T_r11_Widening (.b0 a0 a1)
noncomputable def M_r11_Widening : Mod U := { ts := [3, 3], rt := 3, fn := fun x => m_r11_Widening x.1 x.2.1, ok := by decide }
noncomputable def A_r11_Widening : Nat → Option (List Nat)
  | 5 => some [6]
  | _ => none
noncomputable def mods_r11_Widening : FuncId → Option (Mod U)
  | 144 => some M_r11_limited
  | _ => none
noncomputable def c_r11_Widening : Code := bodyOf Tryz.f56
noncomputable def sp_r11_Widening : P_r11_Widening → Spot U
  | .b0 a0 a1 => ⟨c_r11_Widening, [], entryS [3, 3] (a0, a1, ()) 21, false⟩
  | .b1 a0 => ⟨(nav c_r11_Widening [1, 1, 1, 1, 0] []).1, (nav c_r11_Widening [1, 1, 1, 1, 0] []).2, ⟨[.und, .und, .und, .und, .und, .und, .si .i64 a0, .und, .und, .und, .und, .und, .und, .und, .und, .und, .und, .und, .und, .und, .und], []⟩, true⟩
theorem blk_r11_Widening : ∀ p, Le.runT (EV Tryz.prog gl 56 mods_r11_Widening noH) (mdlOf mods_r11_Widening noH) A_r11_Widening 56 Tryz.f56 0 (doneP (EV Tryz.prog gl 56 mods_r11_Widening noH) Tryz.f56) 1000 (.run (sp_r11_Widening p).c) (sp_r11_Widening p).K (sp_r11_Widening p).st (sp_r11_Widening p).sk = (T_r11_Widening p).map (leafOf (outP (U := U) 3) sp_r11_Widening)
  | .b0 a0 a1 => by kernel_rfl
  | .b1 a0 => by kernel_rfl
theorem ok_r11_Widening : FnOK Tryz.prog B0 56 M_r11_Widening := by
  refine fn_flow rfl (univ_ok _ rfl) mix_ok (fn := Tryz.f56) (c := c_r11_Widening) (mods := mods_r11_Widening) (hmods := noH) ?_ (fun g k m h => by cases h) Tryz.func56 (by kernel_rfl) (by kernel_rfl) (by kernel_rfl) M_r11_Widening T_r11_Widening sp_r11_Widening blk_r11_Widening (fun x => .b0 x.1 x.2.1) (fun x => rfl) (fun x => rfl)
  intro g m h
  unfold mods_r11_Widening at h
  split at h <;> cases h
  · exact ok_r11_limited

/-! wireless/wirelessref30.Window -/
inductive P_r30_Window where
  | b0 (a0 : api_Link)
noncomputable def T_r30_Window : P_r30_Window → Tr U (api_Window ⊕ P_r30_Window)
  | .b0 a0 => .br (a0.Role == (0 : Int)) (
    .leaf (.inl (⟨a0.Anchor, a0.Anchor⟩ : api_Window))) (
    .bind 3 (m_r11_Widening (w64 (a0.Params.PPM + a0.Clock)) (w64 ((w64 (a0.Anchor + a0.Size)) - a0.Sync))) (fun (x1 : Int) => 
      .leaf (.inl (⟨(w64 (a0.Anchor - x1)), (w64 ((w64 (a0.Anchor + a0.Size)) + x1))⟩ : api_Window))))
noncomputable def m_r30_Window (a0 : api_Link) : Option api_Window := flow T_r30_Window (.b0 a0)
noncomputable def M_r30_Window : Mod U := { ts := [44], rt := 52, fn := fun x => m_r30_Window x.1, ok := by decide }
noncomputable def A_r30_Window : Nat → Option (List Nat)
  | _ => none
noncomputable def mods_r30_Window : FuncId → Option (Mod U)
  | 56 => some M_r11_Widening
  | _ => none
noncomputable def c_r30_Window : Code := bodyOf Tryz.f18
noncomputable def sp_r30_Window : P_r30_Window → Spot U
  | .b0 a0 => ⟨c_r30_Window, [], entryS [44] (a0, ()) 39, false⟩
theorem blk_r30_Window : ∀ p, Le.runT (EV Tryz.prog gl 18 mods_r30_Window noH) (mdlOf mods_r30_Window noH) A_r30_Window 18 Tryz.f18 0 (doneP (EV Tryz.prog gl 18 mods_r30_Window noH) Tryz.f18) 1000 (.run (sp_r30_Window p).c) (sp_r30_Window p).K (sp_r30_Window p).st (sp_r30_Window p).sk = (T_r30_Window p).map (leafOf (outP (U := U) 52) sp_r30_Window)
  | .b0 a0 => by kernel_rfl
theorem ok_r30_Window : FnOK Tryz.prog B0 18 M_r30_Window := by
  refine fn_flow rfl (univ_ok _ rfl) mix_ok (fn := Tryz.f18) (c := c_r30_Window) (mods := mods_r30_Window) (hmods := noH) ?_ (fun g k m h => by cases h) Tryz.func18 (by kernel_rfl) (by kernel_rfl) (by kernel_rfl) M_r30_Window T_r30_Window sp_r30_Window blk_r30_Window (fun x => .b0 x.1) (fun x => rfl) (fun x => rfl)
  intro g m h
  unfold mods_r30_Window at h
  split at h <;> cases h
  · exact ok_r11_Widening

/-! wireless/latency.Must -/
inductive P_latency_Must where
  | b0 (a0 : api_Listening) (a1 : Bool)
noncomputable def T_latency_Must : P_latency_Must → Tr U (Bool ⊕ P_latency_Must)
  | .b0 a0 a1 => .br a0.Full (
    .leaf (.inl true)) (
    .br a1 (
      .leaf (.inl true)) (
      .br (decide (a0.Skipped ≥ a0.Latency)) (
        .leaf (.inl true)) (
        .leaf (.inl false))))
noncomputable def m_latency_Must (a0 : api_Listening) (a1 : Bool) : Option Bool := flow T_latency_Must (.b0 a0 a1)
noncomputable def M_latency_Must : Mod U := { ts := [35, 4], rt := 4, fn := fun x => m_latency_Must x.1 x.2.1, ok := by decide }
noncomputable def A_latency_Must : Nat → Option (List Nat)
  | _ => none
noncomputable def mods_latency_Must : FuncId → Option (Mod U)
  | _ => none
noncomputable def c_latency_Must : Code := bodyOf Tryz.f57
noncomputable def sp_latency_Must : P_latency_Must → Spot U
  | .b0 a0 a1 => ⟨c_latency_Must, [], entryS [35, 4] (a0, a1, ()) 16, false⟩
theorem blk_latency_Must : ∀ p, Le.runT (EV Tryz.prog gl 57 mods_latency_Must noH) (mdlOf mods_latency_Must noH) A_latency_Must 57 Tryz.f57 0 (doneP (EV Tryz.prog gl 57 mods_latency_Must noH) Tryz.f57) 1000 (.run (sp_latency_Must p).c) (sp_latency_Must p).K (sp_latency_Must p).st (sp_latency_Must p).sk = (T_latency_Must p).map (leafOf (outP (U := U) 4) sp_latency_Must)
  | .b0 a0 a1 => by kernel_rfl
theorem ok_latency_Must : FnOK Tryz.prog B0 57 M_latency_Must := by
  refine fn_flow rfl (univ_ok _ rfl) mix_ok (fn := Tryz.f57) (c := c_latency_Must) (mods := mods_latency_Must) (hmods := noH) ?_ (fun g k m h => by cases h) Tryz.func57 (by kernel_rfl) (by kernel_rfl) (by kernel_rfl) M_latency_Must T_latency_Must sp_latency_Must blk_latency_Must (fun x => .b0 x.1 x.2.1) (fun x => rfl) (fun x => rfl)
  intro g m h
  cases h

/-! wireless/arq.Idle -/
inductive P_arq_Idle where
  | b0 (a0 : api_Arq)
noncomputable def T_arq_Idle : P_arq_Idle → Tr U (Bool ⊕ P_arq_Idle)
  | .b0 a0 => .leaf (.inl ((↑a0.Queue.length : Int) == (0 : Int)))
noncomputable def m_arq_Idle (a0 : api_Arq) : Option Bool := flow T_arq_Idle (.b0 a0)
noncomputable def M_arq_Idle : Mod U := { ts := [33], rt := 4, fn := fun x => m_arq_Idle x.1, ok := by decide }
noncomputable def A_arq_Idle : Nat → Option (List Nat)
  | _ => none
noncomputable def mods_arq_Idle : FuncId → Option (Mod U)
  | _ => none
noncomputable def c_arq_Idle : Code := bodyOf Tryz.f58
noncomputable def sp_arq_Idle : P_arq_Idle → Spot U
  | .b0 a0 => ⟨c_arq_Idle, [], entryS [33] (a0, ()) 7, false⟩
theorem blk_arq_Idle : ∀ p, Le.runT (EV Tryz.prog gl 58 mods_arq_Idle noH) (mdlOf mods_arq_Idle noH) A_arq_Idle 58 Tryz.f58 0 (doneP (EV Tryz.prog gl 58 mods_arq_Idle noH) Tryz.f58) 1000 (.run (sp_arq_Idle p).c) (sp_arq_Idle p).K (sp_arq_Idle p).st (sp_arq_Idle p).sk = (T_arq_Idle p).map (leafOf (outP (U := U) 4) sp_arq_Idle)
  | .b0 a0 => by kernel_rfl
theorem ok_arq_Idle : FnOK Tryz.prog B0 58 M_arq_Idle := by
  refine fn_flow rfl (univ_ok _ rfl) mix_ok (fn := Tryz.f58) (c := c_arq_Idle) (mods := mods_arq_Idle) (hmods := noH) ?_ (fun g k m h => by cases h) Tryz.func58 (by kernel_rfl) (by kernel_rfl) (by kernel_rfl) M_arq_Idle T_arq_Idle sp_arq_Idle blk_arq_Idle (fun x => .b0 x.1) (fun x => rfl) (fun x => rfl)
  intro g m h
  cases h

/-! wireless/link.Skips -/
inductive P_link_Skips where
  | b0 (a0 : api_Link)
  | b1 (a0 : api_Link)
noncomputable def T_link_Skips : P_link_Skips → Tr U (Bool ⊕ P_link_Skips)
  | .b0 a0 => .br (a0.Reason != (0 : Int)) (
    .leaf (.inl false)) (
    .br (a0.Role != (1 : Int)) (
      .leaf (.inl false)) (
      .br (!a0.Begun) (
        .leaf (.inl false)) (
        .leaf (.inr (.b1 a0)))))
  | .b1 a0 => .br ((↑a0.Commands.length : Int) == (0 : Int)) (
    .br ((↑a0.Procs.Pending.length : Int) == (0 : Int)) (
      .bind 4 (m_arq_Idle a0.Arq) (fun (x1 : Bool) => 
        .bind 4 (m_latency_Must a0.Listen (!x1)) (fun (x2 : Bool) => 
          .leaf (.inl (!x2))))) (
      .leaf (.inl false))) (
    .leaf (.inl false))
noncomputable def m_link_Skips (a0 : api_Link) : Option Bool := flow T_link_Skips (.b0 a0)
noncomputable def M_link_Skips : Mod U := { ts := [44], rt := 4, fn := fun x => m_link_Skips x.1, ok := by decide }
noncomputable def A_link_Skips : Nat → Option (List Nat)
  | 3 => some [1]
  | _ => none
noncomputable def mods_link_Skips : FuncId → Option (Mod U)
  | 57 => some M_latency_Must
  | 58 => some M_arq_Idle
  | _ => none
noncomputable def c_link_Skips : Code := bodyOf Tryz.f19
noncomputable def sp_link_Skips : P_link_Skips → Spot U
  | .b0 a0 => ⟨c_link_Skips, [], entryS [44] (a0, ()) 37, false⟩
  | .b1 a0 => ⟨(nav c_link_Skips [1, 1, 0] []).1, (nav c_link_Skips [1, 1, 0] []).2, ⟨[.und, .ptr 0 0 0 1, .und, .und, .und, .und, .und, .und, .und, .und, .und, .und, .und, .und, .und, .und, .und, .und, .und, .und, .und, .und, .und, .und, .und, .und, .und, .und, .und, .und, .und, .und, .und, .und, .und, .und, .und], [.var 44 66 (U.encS 44 a0)]⟩, true⟩
theorem blk_link_Skips : ∀ p, Le.runT (EV Tryz.prog gl 19 mods_link_Skips noH) (mdlOf mods_link_Skips noH) A_link_Skips 19 Tryz.f19 0 (doneP (EV Tryz.prog gl 19 mods_link_Skips noH) Tryz.f19) 1000 (.run (sp_link_Skips p).c) (sp_link_Skips p).K (sp_link_Skips p).st (sp_link_Skips p).sk = (T_link_Skips p).map (leafOf (outP (U := U) 4) sp_link_Skips)
  | .b0 a0 => by kernel_rfl
  | .b1 a0 => by kernel_rfl
theorem ok_link_Skips : FnOK Tryz.prog B0 19 M_link_Skips := by
  refine fn_flow rfl (univ_ok _ rfl) mix_ok (fn := Tryz.f19) (c := c_link_Skips) (mods := mods_link_Skips) (hmods := noH) ?_ (fun g k m h => by cases h) Tryz.func19 (by kernel_rfl) (by kernel_rfl) (by kernel_rfl) M_link_Skips T_link_Skips sp_link_Skips blk_link_Skips (fun x => .b0 x.1) (fun x => rfl) (fun x => rfl)
  intro g m h
  unfold mods_link_Skips at h
  split at h <;> cases h
  · exact ok_latency_Must
  · exact ok_arq_Idle

/-! wireless/wirelessref25.Must -/
inductive P_r25_Must where
  | b0 (a0 : api_Listening) (a1 : Bool)
noncomputable def T_r25_Must : P_r25_Must → Tr U (Bool ⊕ P_r25_Must)
  | .b0 a0 a1 => .br a0.Full (
    .leaf (.inl true)) (
    .br a1 (
      .leaf (.inl true)) (
      .leaf (.inl (decide (a0.Skipped ≥ a0.Latency)))))
noncomputable def m_r25_Must (a0 : api_Listening) (a1 : Bool) : Option Bool := flow T_r25_Must (.b0 a0 a1)
noncomputable def M_r25_Must : Mod U := { ts := [35, 4], rt := 4, fn := fun x => m_r25_Must x.1 x.2.1, ok := by decide }
noncomputable def A_r25_Must : Nat → Option (List Nat)
  | _ => none
noncomputable def mods_r25_Must : FuncId → Option (Mod U)
  | _ => none
noncomputable def c_r25_Must : Code := bodyOf Tryz.f59
noncomputable def sp_r25_Must : P_r25_Must → Spot U
  | .b0 a0 a1 => ⟨c_r25_Must, [], entryS [35, 4] (a0, a1, ()) 17, false⟩
theorem blk_r25_Must : ∀ p, Le.runT (EV Tryz.prog gl 59 mods_r25_Must noH) (mdlOf mods_r25_Must noH) A_r25_Must 59 Tryz.f59 0 (doneP (EV Tryz.prog gl 59 mods_r25_Must noH) Tryz.f59) 1000 (.run (sp_r25_Must p).c) (sp_r25_Must p).K (sp_r25_Must p).st (sp_r25_Must p).sk = (T_r25_Must p).map (leafOf (outP (U := U) 4) sp_r25_Must)
  | .b0 a0 a1 => by kernel_rfl
theorem ok_r25_Must : FnOK Tryz.prog B0 59 M_r25_Must := by
  refine fn_flow rfl (univ_ok _ rfl) mix_ok (fn := Tryz.f59) (c := c_r25_Must) (mods := mods_r25_Must) (hmods := noH) ?_ (fun g k m h => by cases h) Tryz.func59 (by kernel_rfl) (by kernel_rfl) (by kernel_rfl) M_r25_Must T_r25_Must sp_r25_Must blk_r25_Must (fun x => .b0 x.1 x.2.1) (fun x => rfl) (fun x => rfl)
  intro g m h
  cases h

/-! wireless/wirelessref24.Idle -/
inductive P_r24_Idle where
  | b0 (a0 : api_Arq)
noncomputable def T_r24_Idle : P_r24_Idle → Tr U (Bool ⊕ P_r24_Idle)
  | .b0 a0 => .leaf (.inl ((↑a0.Queue.length : Int) == (0 : Int)))
noncomputable def m_r24_Idle (a0 : api_Arq) : Option Bool := flow T_r24_Idle (.b0 a0)
noncomputable def M_r24_Idle : Mod U := { ts := [33], rt := 4, fn := fun x => m_r24_Idle x.1, ok := by decide }
noncomputable def A_r24_Idle : Nat → Option (List Nat)
  | _ => none
noncomputable def mods_r24_Idle : FuncId → Option (Mod U)
  | _ => none
noncomputable def c_r24_Idle : Code := bodyOf Tryz.f60
noncomputable def sp_r24_Idle : P_r24_Idle → Spot U
  | .b0 a0 => ⟨c_r24_Idle, [], entryS [33] (a0, ()) 7, false⟩
theorem blk_r24_Idle : ∀ p, Le.runT (EV Tryz.prog gl 60 mods_r24_Idle noH) (mdlOf mods_r24_Idle noH) A_r24_Idle 60 Tryz.f60 0 (doneP (EV Tryz.prog gl 60 mods_r24_Idle noH) Tryz.f60) 1000 (.run (sp_r24_Idle p).c) (sp_r24_Idle p).K (sp_r24_Idle p).st (sp_r24_Idle p).sk = (T_r24_Idle p).map (leafOf (outP (U := U) 4) sp_r24_Idle)
  | .b0 a0 => by kernel_rfl
theorem ok_r24_Idle : FnOK Tryz.prog B0 60 M_r24_Idle := by
  refine fn_flow rfl (univ_ok _ rfl) mix_ok (fn := Tryz.f60) (c := c_r24_Idle) (mods := mods_r24_Idle) (hmods := noH) ?_ (fun g k m h => by cases h) Tryz.func60 (by kernel_rfl) (by kernel_rfl) (by kernel_rfl) M_r24_Idle T_r24_Idle sp_r24_Idle blk_r24_Idle (fun x => .b0 x.1) (fun x => rfl) (fun x => rfl)
  intro g m h
  cases h

/-! wireless/wirelessref30.Skips -/
inductive P_r30_Skips where
  | b0 (a0 : api_Link)
noncomputable def T_r30_Skips : P_r30_Skips → Tr U (Bool ⊕ P_r30_Skips)
  | .b0 a0 => .br (a0.Reason == (0 : Int)) (
    .br (a0.Role == (1 : Int)) (
      .br a0.Begun (
        .br ((↑a0.Commands.length : Int) == (0 : Int)) (
          .br ((↑a0.Procs.Pending.length : Int) == (0 : Int)) (
            .bind 4 (m_r24_Idle a0.Arq) (fun (x1 : Bool) => 
              .bind 4 (m_r25_Must a0.Listen (!x1)) (fun (x2 : Bool) => 
                .leaf (.inl (!x2))))) (
            .leaf (.inl false))) (
          .leaf (.inl false))) (
        .leaf (.inl false))) (
      .leaf (.inl false))) (
    .leaf (.inl false))
noncomputable def m_r30_Skips (a0 : api_Link) : Option Bool := flow T_r30_Skips (.b0 a0)
noncomputable def M_r30_Skips : Mod U := { ts := [44], rt := 4, fn := fun x => m_r30_Skips x.1, ok := by decide }
noncomputable def A_r30_Skips : Nat → Option (List Nat)
  | _ => none
noncomputable def mods_r30_Skips : FuncId → Option (Mod U)
  | 59 => some M_r25_Must
  | 60 => some M_r24_Idle
  | _ => none
noncomputable def c_r30_Skips : Code := bodyOf Tryz.f20
noncomputable def sp_r30_Skips : P_r30_Skips → Spot U
  | .b0 a0 => ⟨c_r30_Skips, [], entryS [44] (a0, ()) 38, false⟩
theorem blk_r30_Skips : ∀ p, Le.runT (EV Tryz.prog gl 20 mods_r30_Skips noH) (mdlOf mods_r30_Skips noH) A_r30_Skips 20 Tryz.f20 0 (doneP (EV Tryz.prog gl 20 mods_r30_Skips noH) Tryz.f20) 1000 (.run (sp_r30_Skips p).c) (sp_r30_Skips p).K (sp_r30_Skips p).st (sp_r30_Skips p).sk = (T_r30_Skips p).map (leafOf (outP (U := U) 4) sp_r30_Skips)
  | .b0 a0 => by kernel_rfl
theorem ok_r30_Skips : FnOK Tryz.prog B0 20 M_r30_Skips := by
  refine fn_flow rfl (univ_ok _ rfl) mix_ok (fn := Tryz.f20) (c := c_r30_Skips) (mods := mods_r30_Skips) (hmods := noH) ?_ (fun g k m h => by cases h) Tryz.func20 (by kernel_rfl) (by kernel_rfl) (by kernel_rfl) M_r30_Skips T_r30_Skips sp_r30_Skips blk_r30_Skips (fun x => .b0 x.1) (fun x => rfl) (fun x => rfl)
  intro g m h
  unfold mods_r30_Skips at h
  split at h <;> cases h
  · exact ok_r25_Must
  · exact ok_r24_Idle

/-! wireless/wirelesslaw30.LinkMakes -/
inductive P_law30_LinkMakes where
  | b0 (a0 : Int) (a1 : api_ConnParams) (a2 : Int) (a3 : Int) (a4 : Int) (a5 : Int)
  | b1 (a0 : Int) (a1 : api_Link) (a2 : api_Link)
noncomputable def T_law30_LinkMakes : P_law30_LinkMakes → Tr U (Bool ⊕ P_law30_LinkMakes)
  | .b0 a0 a1 a2 a3 a4 a5 => .bind 46 (m_link_New a0 a1 a2 a3 a4 a5) (fun (x1 : api_Link × Int) => 
    .bind 46 (m_r30_New a0 a1 a2 a3 a4 a5) (fun (x2 : api_Link × Int) => 
      .br (x1.2 != x2.2) (
        .leaf (.inl false)) (
        .bind 4 (m_r30_Same x1.1 x2.1) (fun (x3 : Bool) => 
          .br (!x3) (
            .leaf (.inl false)) (
            .bind 4 (m_law30_lives) (fun (x4 : Bool) => 
              .br (!x4) (
                .leaf (.inl false)) (
                .leaf (.inr (.b1 x1.2 x1.1 x2.1)))))))))
  | .b1 a0 a1 a2 => .br (a0 != (0 : Int)) (
    .leaf (.inl true)) (
    .bind 3 (m_link_Channel a1) (fun (x1 : Int) => 
      .bind 3 (m_r30_Channel a2) (fun (x2 : Int) => 
        .br (x1 == x2) (
          .bind 52 (m_link_Window a1) (fun (x3 : api_Window) => 
            .bind 52 (m_r30_Window a2) (fun (x4 : api_Window) => 
              .br ((x3.Start == x4.Start) && ((x3.End == x4.End) && true)) (
                .bind 4 (m_link_Skips a1) (fun (x5 : Bool) => 
                  .bind 4 (m_r30_Skips a2) (fun (x6 : Bool) => 
                    .leaf (.inl (x5 == x6))))) (
                .leaf (.inl false))))) (
          .leaf (.inl false)))))
noncomputable def m_law30_LinkMakes (a0 : Int) (a1 : api_ConnParams) (a2 : Int) (a3 : Int) (a4 : Int) (a5 : Int) : Option Bool := flow T_law30_LinkMakes (.b0 a0 a1 a2 a3 a4 a5)
noncomputable def M_law30_LinkMakes : Mod U := { ts := [3, 28, 3, 29, 25, 3], rt := 4, fn := fun x => m_law30_LinkMakes x.1 x.2.1 x.2.2.1 x.2.2.2.1 x.2.2.2.2.1 x.2.2.2.2.2.1, ok := by decide }
noncomputable def A_law30_LinkMakes : Nat → Option (List Nat)
  | 5 => some [13, 14, 15]
  | _ => none
noncomputable def mods_law30_LinkMakes : FuncId → Option (Mod U)
  | 11 => some M_link_New
  | 12 => some M_r30_New
  | 13 => some M_r30_Same
  | 14 => some M_law30_lives
  | 15 => some M_link_Channel
  | 16 => some M_r30_Channel
  | 17 => some M_link_Window
  | 18 => some M_r30_Window
  | 19 => some M_link_Skips
  | 20 => some M_r30_Skips
  | _ => none
noncomputable def c_law30_LinkMakes : Code := bodyOf Tryz.f3
noncomputable def sp_law30_LinkMakes : P_law30_LinkMakes → Spot U
  | .b0 a0 a1 a2 a3 a4 a5 => ⟨c_law30_LinkMakes, [], entryS [3, 28, 3, 29, 25, 3] (a0, a1, a2, a3, a4, a5, ()) 73, false⟩
  | .b1 a0 a1 a2 => ⟨(nav c_law30_LinkMakes [1, 1, 1, 1, 0] []).1, (nav c_law30_LinkMakes [1, 1, 1, 1, 0] []).2, ⟨[.und, .und, .und, .und, .und, .und, .und, .und, .und, .und, .und, .und, .und, .ptr 0 0 0 1, .si .i64 a0, .ptr 1 0 0 1, .und, .und, .und, .und, .und, .und, .und, .und, .und, .und, .und, .und, .und, .und, .und, .und, .und, .und, .und, .und, .und, .und, .und, .und, .und, .und, .und, .und, .und, .und, .und, .und, .und, .und, .und, .und, .und, .und, .und, .und, .und, .und, .und, .und, .und, .und, .und, .und, .und, .und, .und, .und, .und, .und, .und, .und, .und], [.var 44 66 (U.encS 44 a1), .var 44 66 (U.encS 44 a2)]⟩, true⟩
theorem blk_law30_LinkMakes : ∀ p, Le.runT (EV Tryz.prog gl 3 mods_law30_LinkMakes noH) (mdlOf mods_law30_LinkMakes noH) A_law30_LinkMakes 3 Tryz.f3 0 (doneP (EV Tryz.prog gl 3 mods_law30_LinkMakes noH) Tryz.f3) 1000 (.run (sp_law30_LinkMakes p).c) (sp_law30_LinkMakes p).K (sp_law30_LinkMakes p).st (sp_law30_LinkMakes p).sk = (T_law30_LinkMakes p).map (leafOf (outP (U := U) 4) sp_law30_LinkMakes)
  | .b0 a0 a1 a2 a3 a4 a5 => by kernel_rfl
  | .b1 a0 a1 a2 => by kernel_rfl
theorem ok_law30_LinkMakes : FnOK Tryz.prog B0 3 M_law30_LinkMakes := by
  refine fn_flow rfl (univ_ok _ rfl) mix_ok (fn := Tryz.f3) (c := c_law30_LinkMakes) (mods := mods_law30_LinkMakes) (hmods := noH) ?_ (fun g k m h => by cases h) Tryz.func3 (by kernel_rfl) (by kernel_rfl) (by kernel_rfl) M_law30_LinkMakes T_law30_LinkMakes sp_law30_LinkMakes blk_law30_LinkMakes (fun x => .b0 x.1 x.2.1 x.2.2.1 x.2.2.2.1 x.2.2.2.2.1 x.2.2.2.2.2.1) (fun x => rfl) (fun x => rfl)
  intro g m h
  unfold mods_law30_LinkMakes at h
  split at h <;> cases h
  · exact ok_link_New
  · exact ok_r30_New
  · exact ok_r30_Same
  · exact ok_law30_lives
  · exact ok_link_Channel
  · exact ok_r30_Channel
  · exact ok_link_Window
  · exact ok_r30_Window
  · exact ok_link_Skips
  · exact ok_r30_Skips

end Go.Proofs.YtjodhcdmhobmoaaGreatDoor
