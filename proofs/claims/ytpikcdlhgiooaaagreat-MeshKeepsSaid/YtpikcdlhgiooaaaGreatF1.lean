/-
  wireless/wirelesslaw54.begin: what it answers at the states of a node that is alone is shown in texts of their own.
-/
import Derived.Test.YtpikcdlhgiooaaaGreatKUn
import Derived.RangeFuncWrites
import Derived.RangeFuncBox
import Derived.RangeFuncLeaves
import Derived.WalkKit
import Derived.OwnWalkIn
import Derived.TacticsInMore
import Derived.RegionIn
import Derived.LoopNIn
import Derived.LoopIn
import Derived.Shelf.Abstract
import Derived.IntWalk
import Derived.Lib.Hide
import Derived.Laws.Closers25b
import Derived.RangeFuncCalls
namespace Go.Proofs.YtpikcdlhgiooaaaGreat
open Go Go.Proofs.YtpikcdlhgiooaaaGreat.Le
end Go.Proofs.YtpikcdlhgiooaaaGreat

/-
  (wireless/wirelesslaw54.Plan).nodes: what it answers at the states of a node that is alone is shown in texts of their own.
-/
namespace Go.Proofs.YtpikcdlhgiooaaaGreat
open Go Go.Proofs.YtpikcdlhgiooaaaGreat.Le
end Go.Proofs.YtpikcdlhgiooaaaGreat

/-
  wireless/mesh.Tick: what it answers at the states of a node that is alone is shown in texts of their own.
-/
namespace Go.Proofs.YtpikcdlhgiooaaaGreat
open Go Go.Proofs.YtpikcdlhgiooaaaGreat.Le
end Go.Proofs.YtpikcdlhgiooaaaGreat

/-
  wireless/node.Tick: what it answers at the states of a node that is alone is shown in texts of their own.
-/
namespace Go.Proofs.YtpikcdlhgiooaaaGreat
open Go Go.Proofs.YtpikcdlhgiooaaaGreat.Le
end Go.Proofs.YtpikcdlhgiooaaaGreat

/-
  Functions of the program as functions of Lean (printed by a program of mine).
-/
namespace Go.Proofs.YtpikcdlhgiooaaaGreat
open Go Go.Proofs.YtpikcdlhgiooaaaGreat.Le
set_option linter.unusedVariables false
set_option maxRecDepth 100000
noncomputable section
/-! wireless/wirelessref53.sameGroups -/
inductive P_r53_sameGroups where
  | b0 (a0 a1 : List Int)
  | b1 (a0 a1 : List Int) (a2 : Int)
def T_r53_sameGroups : P_r53_sameGroups → Tr U (Bool ⊕ P_r53_sameGroups)
  | .b0 a0 a1 => .br ((↑a0.length : Int) != (↑a1.length : Int)) (
    lfD false) (
    lfJ (.b1 a0 a1 (0 : Int)))
  | .b1 a0 a1 a2 => .br (decide (a2 < (↑a0.length : Int))) (
    .chk (kI a2 a0) (
      .bind 35 (a0[(Int.toNat a2)]?) (fun (x1 : Int) => 
        .chk (kI a2 a1) (
          .bind 35 (a1[(Int.toNat a2)]?) (fun (x2 : Int) => 
            .br (x1 != x2) (
              lfD false) (
              lfJ (.b1 a0 a1 (w64 (a2 + 1))))))))) (
    lfD true)
def m_r53_sameGroups (a0 a1 : List Int) : Option Bool := flow T_r53_sameGroups (.b0 a0 a1)
def M_r53_sameGroups : Mod U := ⟨[45, 45], 4, fun x => m_r53_sameGroups x.1 x.2.1, by decide⟩
def L_r53_sameGroups_1 : Lay := LT [0, 1, 5] [.v 45, .v 45, .v 3] []
def sp_r53_sameGroups : P_r53_sameGroups → Spot U
  | .b0 a0 a1 => entP Tryz.f20 [45, 45] (a0, a1, ())
  | .b1 a0 a1 a2 => spL Tryz.f20 [1, 1, 0, 1, 0, 0, 0, 0] L_r53_sameGroups_1 (((a0, ()), ((a1, ()), ((a2, ()), ()))), ())
theorem ok_r53_sameGroups : FnOK Tryz.prog B0 20 M_r53_sameGroups := okQ msN hsN (al [(4, L_r53_sameGroups_1)]) sp_r53_sameGroups Tryz.func20 (fun p => by cases p <;> kernel_rfl) (by kernel_rfl) fun _ => rfl

/-! wireless/wirelessref53.sameParts -/
inductive P_r53_sameParts where
  | b0 (a0 a1 : List (List Int))
  | b1 (a0 a1 : List (List Int)) (a2 : Int)
def T_r53_sameParts : P_r53_sameParts → Tr U (Bool ⊕ P_r53_sameParts)
  | .b0 a0 a1 => .br ((↑a0.length : Int) != (↑a1.length : Int)) (
    lfD false) (
    lfJ (.b1 a0 a1 (0 : Int)))
  | .b1 a0 a1 a2 => .br (decide (a2 < (↑a0.length : Int))) (
    .chk (kI a2 a0) (
      .bind 92 (a0[(Int.toNat a2)]?) (fun (x1 : List Int) => 
        .chk (okBytes U 5 x1) (
          .chk (kI a2 a1) (
            .bind 92 (a1[(Int.toNat a2)]?) (fun (x2 : List Int) => 
              .chk (okBytes U 5 x2) (
                .br (!((strOf U 5 x1).toList == (strOf U 5 x2).toList)) (
                  lfD false) (
                  lfJ (.b1 a0 a1 (w64 (a2 + 1))))))))))) (
    lfD true)
def m_r53_sameParts (a0 a1 : List (List Int)) : Option Bool := flow T_r53_sameParts (.b0 a0 a1)
def M_r53_sameParts : Mod U := ⟨[132, 132], 4, fun x => m_r53_sameParts x.1 x.2.1, by decide⟩
def L_r53_sameParts_1 : Lay := LT [0, 1, 5] [.v 132, .v 132, .v 3] []
def sp_r53_sameParts : P_r53_sameParts → Spot U
  | .b0 a0 a1 => entP Tryz.f55 [132, 132] (a0, a1, ())
  | .b1 a0 a1 a2 => spL Tryz.f55 [1, 1, 0, 1, 0, 0, 0, 0] L_r53_sameParts_1 (((a0, ()), ((a1, ()), ((a2, ()), ()))), ())
theorem ok_r53_sameParts : FnOK Tryz.prog B0 55 M_r53_sameParts := okQ msN hsN (al [(4, L_r53_sameParts_1)]) sp_r53_sameParts Tryz.func55 (fun p => by cases p <;> kernel_rfl) (by kernel_rfl) fun _ => rfl

/-! wireless/wirelessref53.sameTransport -/
inductive P_r53_sameTransport where
  | b0 (a0 a1 : api_Transport)
  | b1 (a0 a1 : api_Transport)
  | b2 (a0 : Int) (a1 a2 : api_Transport)
  | b3 (a0 : Int) (a1 a2 : api_Transport)
  | b4 (a0 : Int) (a1 a2 : api_Transport)
  | b5 (a0 : Int) (a1 a2 : api_Transport)
def T_r53_sameTransport : P_r53_sameTransport → Tr U (Bool ⊕ P_r53_sameTransport)
  | .b0 a0 a1 => .br ((↑a0.Out.length : Int) != (↑a1.Out.length : Int)) (
    lfD false) (
    .br ((↑a0.In.length : Int) != (↑a1.In.length : Int)) (
      lfD false) (
      lfJ (.b1 a0 a1)))
  | .b1 a0 a1 => lfJ (.b2 (0 : Int) a0 a1)
  | .b2 a0 a1 a2 => .br (decide (a0 < (↑a1.Out.length : Int))) (
    .chk (kI a0 a1.Out) (
      .bind 134 (a1.Out[(Int.toNat a0)]?) (fun (x1 : api_Outgoing) => 
        .chk (kI a0 a2.Out) (
          .bind 134 (a2.Out[(Int.toNat a0)]?) (fun (x2 : api_Outgoing) => 
            .br (x1.Dst != x2.Dst) (
              lfD false) (
              .br (x1.Src != x2.Src) (
                lfD false) (
                .br (!(x1.App == x2.App)) (
                  lfD false) (
                  .br (x1.Zero != x2.Zero) (
                    lfD false) (
                    .br (x1.IV != x2.IV) (
                      lfD false) (
                      .bind 4 (m_r53_sameParts x1.Parts x2.Parts) (fun (x3 : Bool) => 
                        .br (!x3) (
                          lfD false) (
                          .br (x1.Acked != x2.Acked) (
                            lfD false) (
                            .br (x1.Due != x2.Due) (
                              lfD false) (
                              .br (x1.Tries != x2.Tries) (
                                lfD false) (
                                .br (x1.TTL != x2.TTL) (
                                  lfD false) (
                                  lfJ (.b3 a0 a1 a2))))))))))))))))) (
    lfJ (.b4 (0 : Int) a1 a2))
  | .b3 a0 a1 a2 => lfJ (.b2 (w64 (a0 + 1)) a1 a2)
  | .b4 a0 a1 a2 => .br (decide (a0 < (↑a1.In.length : Int))) (
    .chk (kI a0 a1.In) (
      .bind 137 (a1.In[(Int.toNat a0)]?) (fun (x1 : api_Incoming) => 
        .chk (kI a0 a2.In) (
          .bind 137 (a2.In[(Int.toNat a0)]?) (fun (x2 : api_Incoming) => 
            .br (x1.Src != x2.Src) (
              lfD false) (
              .br (x1.Dst != x2.Dst) (
                lfD false) (
                .br (!(x1.App == x2.App)) (
                  lfD false) (
                  .br (x1.Zero != x2.Zero) (
                    lfD false) (
                    .br (x1.IV != x2.IV) (
                      lfD false) (
                      .br (x1.Last != x2.Last) (
                        lfD false) (
                        .bind 4 (m_r53_sameParts x1.Parts x2.Parts) (fun (x3 : Bool) => 
                          .br (!x3) (
                            lfD false) (
                            .br (x1.Block != x2.Block) (
                              lfD false) (
                              .br (x1.Due != x2.Due) (
                                lfD false) (
                                .br (x1.TTL != x2.TTL) (
                                  lfD false) (
                                  .br (!(x1.Done == x2.Done)) (
                                    lfD false) (
                                    lfJ (.b5 a0 a1 a2)))))))))))))))))) (
    lfD true)
  | .b5 a0 a1 a2 => lfJ (.b4 (w64 (a0 + 1)) a1 a2)
def m_r53_sameTransport (a0 a1 : api_Transport) : Option Bool := flow T_r53_sameTransport (.b0 a0 a1)
def M_r53_sameTransport : Mod U := ⟨[51, 51], 4, fun x => m_r53_sameTransport x.1 x.2.1, by decide⟩
def L_r53_sameTransport_1 : Lay := LT [2, 3] [.p 0, .p 1] [.s 51, .s 51]
def L_r53_sameTransport_2 : Lay := LT [2, 3, 5] [.p 0, .p 1, .v 3] [.s 51, .s 51]
def L_r53_sameTransport_4 : Lay := LT [2, 3, 8] [.p 0, .p 1, .v 3] [.s 51, .s 51]
def sp_r53_sameTransport : P_r53_sameTransport → Spot U
  | .b0 a0 a1 => entP Tryz.f21 [51, 51] (a0, a1, ())
  | .b1 a0 a1 => spL Tryz.f21 [1, 1, 0, 0] L_r53_sameTransport_1 (((), ((), ())), ((a0, ()), ((a1, ()), ())))
  | .b2 a0 a1 a2 => spL Tryz.f21 [1, 1, 0, 1, 0, 0, 0, 0] L_r53_sameTransport_2 (((), ((), ((a0, ()), ()))), ((a1, ()), ((a2, ()), ())))
  | .b3 a0 a1 a2 => spL Tryz.f21 [1, 1, 0, 1, 0, 0, 1, 1] L_r53_sameTransport_2 (((), ((), ((a0, ()), ()))), ((a1, ()), ((a2, ()), ())))
  | .b4 a0 a1 a2 => spL Tryz.f21 [1, 1, 1, 0, 1, 0, 0, 0, 0] L_r53_sameTransport_4 (((), ((), ((a0, ()), ()))), ((a1, ()), ((a2, ()), ())))
  | .b5 a0 a1 a2 => spL Tryz.f21 [1, 1, 1, 0, 1, 0, 0, 1, 1] L_r53_sameTransport_4 (((), ((), ((a0, ()), ()))), ((a1, ()), ((a2, ()), ())))
theorem ok_r53_sameTransport : FnOK Tryz.prog B0 21 M_r53_sameTransport := okQ (mc ok_r53_sameParts msN) hsN (al [(3, L_r53_sameTransport_1), (4, L_r53_sameTransport_2), (5, L_r53_sameTransport_2), (10, L_r53_sameTransport_4), (11, L_r53_sameTransport_4)]) sp_r53_sameTransport Tryz.func21 (fun p => by cases p <;> kernel_rfl) (by kernel_rfl) fun _ => rfl

/-! wireless/wirelessref53.sameFriend -/
inductive P_r53_sameFriend where
  | b0 (a0 a1 : api_Friend)
  | b1 (a0 a1 : api_Friend)
  | b2 (a0 : Int) (a1 a2 : api_Friend)
  | b3 (a0 : Int) (a1 a2 : api_Friend) (a3 a4 : api_Lower)
  | b4 (a0 : Int) (a1 a2 : api_Friend)
def T_r53_sameFriend : P_r53_sameFriend → Tr U (Bool ⊕ P_r53_sameFriend)
  | .b0 a0 a1 => .br (a0.Low != a1.Low) (
    lfD false) (
    .br ((↑a0.Queue.length : Int) != (↑a1.Queue.length : Int)) (
      lfD false) (
      .bind 4 (m_r53_sameGroups a0.Subs a1.Subs) (fun (x1 : Bool) => 
        .br (!x1) (
          lfD false) (
          .br (a0.Bit != a1.Bit) (
            lfD false) (
            .br (!(a0.Sent == a1.Sent)) (
              lfD false) (
              .br (a0.Polled != a1.Polled) (
                lfD false) (
                .br (a0.Counter != a1.Counter) (
                  lfD false) (
                  .br (a0.Dropped != a1.Dropped) (
                    lfD false) (
                    lfJ (.b1 a0 a1))))))))))
  | .b1 a0 a1 => lfJ (.b2 (0 : Int) a0 a1)
  | .b2 a0 a1 a2 => .br (decide (a0 < (↑a1.Queue.length : Int))) (
    .chk (kI a0 a1.Queue) (
      .bind 143 (a1.Queue[(Int.toNat a0)]?) (fun (x1 : api_Queued) => 
        .chk (kI a0 a2.Queue) (
          .bind 143 (a2.Queue[(Int.toNat a0)]?) (fun (x2 : api_Queued) => 
            .chk (kI a0 a1.Queue) (
              .bind 143 (a1.Queue[(Int.toNat a0)]?) (fun (x3 : api_Queued) => 
                .chk (kI a0 a2.Queue) (
                  .bind 143 (a2.Queue[(Int.toNat a0)]?) (fun (x4 : api_Queued) => 
                    .br (x1.PDU.IV != x2.PDU.IV) (
                      lfD false) (
                      .br (x1.PDU.NID != x2.PDU.NID) (
                        lfD false) (
                        .br (!(x1.PDU.Control == x2.PDU.Control)) (
                          lfD false) (
                          .br (x1.PDU.TTL != x2.PDU.TTL) (
                            lfD false) (
                            .br (x1.PDU.Seq != x2.PDU.Seq) (
                              lfD false) (
                              .br (x1.PDU.Src != x2.PDU.Src) (
                                lfD false) (
                                .br (x1.PDU.Dst != x2.PDU.Dst) (
                                  lfD false) (
                                  .chk (okBytes U 5 x1.PDU.Payload) (
                                    .chk (okBytes U 5 x2.PDU.Payload) (
                                      .br (!((strOf U 5 x1.PDU.Payload).toList == (strOf U 5 x2.PDU.Payload).toList)) (
                                        lfD false) (
                                        lfJ (.b3 a0 a1 a2 x3.Lower x4.Lower)))))))))))))))))))) (
    lfD true)
  | .b3 a0 a1 a2 a3 a4 => .br (!(a3.Control == a4.Control)) (
    lfD false) (
    .br (!(a3.Segmented == a4.Segmented)) (
      lfD false) (
      .br (!(a3.App == a4.App)) (
        lfD false) (
        .br (a3.Zero != a4.Zero) (
          lfD false) (
          .br (a3.Index != a4.Index) (
            lfD false) (
            .br (a3.Last != a4.Last) (
              lfD false) (
              .br (a3.Opcode != a4.Opcode) (
                lfD false) (
                .br (a3.Block != a4.Block) (
                  lfD false) (
                  .br (!(a3.Friend == a4.Friend)) (
                    lfD false) (
                    .chk (okBytes U 5 a3.Bytes) (
                      .chk (okBytes U 5 a4.Bytes) (
                        .br (!((strOf U 5 a3.Bytes).toList == (strOf U 5 a4.Bytes).toList)) (
                          lfD false) (
                          lfJ (.b4 a0 a1 a2)))))))))))))
  | .b4 a0 a1 a2 => lfJ (.b2 (w64 (a0 + 1)) a1 a2)
def m_r53_sameFriend (a0 a1 : api_Friend) : Option Bool := flow T_r53_sameFriend (.b0 a0 a1)
def M_r53_sameFriend : Mod U := ⟨[54, 54], 4, fun x => m_r53_sameFriend x.1 x.2.1, by decide⟩
def L_r53_sameFriend_1 : Lay := LT [2, 3] [.p 0, .p 1] [.s 54, .s 54]
def L_r53_sameFriend_2 : Lay := LT [2, 3, 5] [.p 0, .p 1, .v 3] [.s 54, .s 54]
def L_r53_sameFriend_3 : Lay := LT [2, 3, 5, 8, 9] [.p 0, .p 1, .v 3, .p 2, .p 3] [.s 54, .s 54, .s 141, .s 141]
def sp_r53_sameFriend : P_r53_sameFriend → Spot U
  | .b0 a0 a1 => entP Tryz.f22 [54, 54] (a0, a1, ())
  | .b1 a0 a1 => spL Tryz.f22 [1, 1, 0, 0] L_r53_sameFriend_1 (((), ((), ())), ((a0, ()), ((a1, ()), ())))
  | .b2 a0 a1 a2 => spL Tryz.f22 [1, 1, 0, 1, 0, 0, 0, 0] L_r53_sameFriend_2 (((), ((), ((a0, ()), ()))), ((a1, ()), ((a2, ()), ())))
  | .b3 a0 a1 a2 a3 a4 => spL Tryz.f22 [1, 1, 0, 1, 0, 0, 1, 0, 0, 1, 1, 1, 0] L_r53_sameFriend_3 (((), ((), ((a0, ()), ((), ((), ()))))), ((a1, ()), ((a2, ()), ((a3, ()), ((a4, ()), ())))))
  | .b4 a0 a1 a2 => spL Tryz.f22 [1, 1, 0, 1, 0, 0, 1, 1] L_r53_sameFriend_2 (((), ((), ((a0, ()), ()))), ((a1, ()), ((a2, ()), ())))
theorem ok_r53_sameFriend : FnOK Tryz.prog B0 22 M_r53_sameFriend := okQ (mc ok_r53_sameGroups msN) hsN (al [(3, L_r53_sameFriend_1), (4, L_r53_sameFriend_2), (10, L_r53_sameFriend_3), (5, L_r53_sameFriend_2)]) sp_r53_sameFriend Tryz.func22 (fun p => by cases p <;> kernel_rfl) (by kernel_rfl) fun _ => rfl

/-! wireless/wirelessref53.sameLow -/
def T_r53_sameLow : S1 (api_LowPower × api_LowPower × Unit) Bool
  | (a0, a1, _) => .br (a0.Phase == a1.Phase) (
    .br (a0.Friend == a1.Friend) (
      .br (a0.Bit == a1.Bit) (
        .br (a0.Counter == a1.Counter) (
          .br (a0.Due == a1.Due) (
            .br (a0.Tries == a1.Tries) (
              .bind 4 (m_r53_sameGroups a0.Subs a1.Subs) (fun (x1 : Bool) => 
                .br x1 (
                  .br (a0.Told == a1.Told) (
                    .br (a0.More == a1.More) (
                      lfD (a0.Last == a1.Last)) (
                      lfD false)) (
                    lfD false)) (
                  lfD false))) (
              lfD false)) (
            lfD false)) (
          lfD false)) (
        lfD false)) (
      lfD false)) (
    lfD false)
def m_r53_sameLow (a0 a1 : api_LowPower) : Option Bool := flow T_r53_sameLow (a0, a1, ())
def M_r53_sameLow : Mod U := ⟨[56, 56], 4, fun x => m_r53_sameLow x.1 x.2.1, by decide⟩
theorem ok_r53_sameLow : FnOK Tryz.prog B0 23 M_r53_sameLow := ok1 (mc ok_r53_sameGroups msN) hsN Tryz.func23 (fun _ => by kernel_rfl) (by kernel_rfl)

/-! wireless/wirelessref53.SameTimed -/
inductive P_r53_SameTimed where
  | b0 (a0 a1 : List api_Timed)
  | b1 (a0 a1 : List api_Timed) (a2 : Int)
  | b2 (a0 a1 : List api_Timed) (a2 : Int)
def T_r53_SameTimed : P_r53_SameTimed → Tr U (Bool ⊕ P_r53_SameTimed)
  | .b0 a0 a1 => .br ((↑a0.length : Int) != (↑a1.length : Int)) (
    lfD false) (
    lfJ (.b1 a0 a1 (0 : Int)))
  | .b1 a0 a1 a2 => .br (decide (a2 < (↑a0.length : Int))) (
    .chk (kI a2 a0) (
      .bind 123 (a0[(Int.toNat a2)]?) (fun (x1 : api_Timed) => 
        .chk (kI a2 a1) (
          .bind 123 (a1[(Int.toNat a2)]?) (fun (x2 : api_Timed) => 
            .br (x1.Due != x2.Due) (
              lfD false) (
              .chk (kI a2 a0) (
                .bind 123 (a0[(Int.toNat a2)]?) (fun (x3 : api_Timed) => 
                  .chk (kI a2 a1) (
                    .bind 123 (a1[(Int.toNat a2)]?) (fun (x4 : api_Timed) => 
                      .br (x3.To != x4.To) (
                        lfD false) (
                        .chk (kI a2 a0) (
                          .bind 123 (a0[(Int.toNat a2)]?) (fun (x5 : api_Timed) => 
                            .chk (okBytes U 5 x5.Bytes) (
                              .chk (kI a2 a1) (
                                .bind 123 (a1[(Int.toNat a2)]?) (fun (x6 : api_Timed) => 
                                  .chk (okBytes U 5 x6.Bytes) (
                                    .br (!((strOf U 5 x5.Bytes).toList == (strOf U 5 x6.Bytes).toList)) (
                                      lfD false) (
                                      lfJ (.b2 a0 a1 a2))))))))))))))))))) (
    lfD true)
  | .b2 a0 a1 a2 => lfJ (.b1 a0 a1 (w64 (a2 + 1)))
def m_r53_SameTimed (a0 a1 : List api_Timed) : Option Bool := flow T_r53_SameTimed (.b0 a0 a1)
def M_r53_SameTimed : Mod U := ⟨[57, 57], 4, fun x => m_r53_SameTimed x.1 x.2.1, by decide⟩
def L_r53_SameTimed_1 : Lay := LT [0, 1, 5] [.v 57, .v 57, .v 3] []
def sp_r53_SameTimed : P_r53_SameTimed → Spot U
  | .b0 a0 a1 => entP Tryz.f24 [57, 57] (a0, a1, ())
  | .b1 a0 a1 a2 => spL Tryz.f24 [1, 1, 0, 1, 0, 0, 0, 0] L_r53_SameTimed_1 (((a0, ()), ((a1, ()), ((a2, ()), ()))), ())
  | .b2 a0 a1 a2 => spL Tryz.f24 [1, 1, 0, 1, 0, 0, 1, 1] L_r53_SameTimed_1 (((a0, ()), ((a1, ()), ((a2, ()), ()))), ())
theorem ok_r53_SameTimed : FnOK Tryz.prog B0 24 M_r53_SameTimed := okQ msN hsN (al [(4, L_r53_SameTimed_1), (5, L_r53_SameTimed_1)]) sp_r53_SameTimed Tryz.func24 (fun p => by cases p <;> kernel_rfl) (by kernel_rfl) fun _ => rfl

/-! wireless/wirelessref53.Same -/
inductive P_r53_Same where
  | b0 (a0 a1 : api_Node)
  | b1 (a0 a1 : api_Node)
  | b2 (a0 : Int) (a1 a2 : api_Node)
  | b3 (a0 : Int) (a1 a2 : api_Node)
  | b4 (a0 a1 : api_Node)
def T_r53_Same : P_r53_Same → Tr U (Bool ⊕ P_r53_Same)
  | .b0 a0 a1 => .br ((↑a0.Cache.length : Int) != (↑a1.Cache.length : Int)) (
    lfD false) (
    .br ((↑a0.Replays.length : Int) != (↑a1.Replays.length : Int)) (
      lfD false) (
      lfJ (.b1 a0 a1)))
  | .b1 a0 a1 => lfJ (.b2 (0 : Int) a0 a1)
  | .b2 a0 a1 a2 => .br (decide (a0 < (↑a1.Cache.length : Int))) (
    .chk (kI a0 a1.Cache) (
      .bind 82 (a1.Cache[(Int.toNat a0)]?) (fun (x1 : api_SeqID) => 
        .chk (kI a0 a2.Cache) (
          .bind 82 (a2.Cache[(Int.toNat a0)]?) (fun (x2 : api_SeqID) => 
            .br (!((x1.Src == x2.Src) && ((x1.IV == x2.IV) && ((x1.Seq == x2.Seq) && true)))) (
              lfD false) (
              lfJ (.b2 (w64 (a0 + 1)) a1 a2))))))) (
    lfJ (.b3 (0 : Int) a1 a2))
  | .b3 a0 a1 a2 => .br (decide (a0 < (↑a1.Replays.length : Int))) (
    .chk (kI a0 a1.Replays) (
      .bind 83 (a1.Replays[(Int.toNat a0)]?) (fun (x1 : api_SeqID) => 
        .chk (kI a0 a2.Replays) (
          .bind 83 (a2.Replays[(Int.toNat a0)]?) (fun (x2 : api_SeqID) => 
            .br (!((x1.Src == x2.Src) && ((x1.IV == x2.IV) && ((x1.Seq == x2.Seq) && true)))) (
              lfD false) (
              lfJ (.b3 (w64 (a0 + 1)) a1 a2))))))) (
    .br (a1.Address != a2.Address) (
      lfD false) (
      .br (a1.Device != a2.Device) (
        lfD false) (
        .br (a1.App != a2.App) (
          lfD false) (
          .br (!((a1.Keys.Phase == a2.Keys.Phase) && ((a1.Keys.Old.Key == a2.Keys.Old.Key) && ((a1.Keys.Old.NID == a2.Keys.Old.NID) && ((a1.Keys.Old.Encrypt == a2.Keys.Old.Encrypt) && ((a1.Keys.Old.Hide == a2.Keys.Old.Hide) && ((a1.Keys.Old.Beacon == a2.Keys.Old.Beacon) && ((a1.Keys.New.Key == a2.Keys.New.Key) && ((a1.Keys.New.NID == a2.Keys.New.NID) && ((a1.Keys.New.Encrypt == a2.Keys.New.Encrypt) && ((a1.Keys.New.Hide == a2.Keys.New.Hide) && ((a1.Keys.New.Beacon == a2.Keys.New.Beacon) && true)))))))))))) (
            lfD false) (
            .br (!((a1.IV.Index == a2.IV.Index) && ((a1.IV.Updating == a2.IV.Updating) && ((a1.IV.Since == a2.IV.Since) && true)))) (
              lfD false) (
              .br (a1.Seq != a2.Seq) (
                lfD false) (
                .br (!(a1.Relay == a2.Relay)) (
                  lfD false) (
                  .br (!(a1.Befriends == a2.Befriends)) (
                    lfD false) (
                    .br (a1.Stored != a2.Stored) (
                      lfD false) (
                      .br (!(a1.Up == a2.Up)) (
                        lfD false) (
                        lfJ (.b4 a1 a2))))))))))))
  | .b4 a0 a1 => .bind 4 (m_r53_sameGroups a0.Groups a1.Groups) (fun (x1 : Bool) => 
    .br x1 (
      .bind 4 (m_r53_sameTransport a0.Transport a1.Transport) (fun (x2 : Bool) => 
        .br x2 (
          .bind 4 (m_r53_sameFriend a0.Friend a1.Friend) (fun (x3 : Bool) => 
            .br x3 (
              .bind 4 (m_r53_sameLow a0.Low a1.Low) (fun (x4 : Bool) => 
                .br x4 (
                  .bind 4 (m_r53_SameTimed a0.Out a1.Out) (fun (x5 : Bool) => 
                    lfD x5)) (
                  lfD false))) (
              lfD false))) (
          lfD false))) (
      lfD false))
def m_r53_Same (a0 a1 : api_Node) : Option Bool := flow T_r53_Same (.b0 a0 a1)
def M_r53_Same : Mod U := ⟨[59, 59], 4, fun x => m_r53_Same x.1 x.2.1, by decide⟩
def L_r53_Same_1 : Lay := LT [2, 3] [.p 0, .p 1] [.s 59, .s 59]
def L_r53_Same_2 : Lay := LT [2, 3, 5] [.p 0, .p 1, .v 3] [.s 59, .s 59]
def L_r53_Same_3 : Lay := LT [2, 3, 6] [.p 0, .p 1, .v 3] [.s 59, .s 59]
def sp_r53_Same : P_r53_Same → Spot U
  | .b0 a0 a1 => entP Tryz.f9 [59, 59] (a0, a1, ())
  | .b1 a0 a1 => spL Tryz.f9 [1, 1, 0, 0] L_r53_Same_1 (((), ((), ())), ((a0, ()), ((a1, ()), ())))
  | .b2 a0 a1 a2 => spL Tryz.f9 [1, 1, 0, 1, 0, 0, 0, 0] L_r53_Same_2 (((), ((), ((a0, ()), ()))), ((a1, ()), ((a2, ()), ())))
  | .b3 a0 a1 a2 => spL Tryz.f9 [1, 1, 1, 0, 1, 0, 0, 0, 0] L_r53_Same_3 (((), ((), ((a0, ()), ()))), ((a1, ()), ((a2, ()), ())))
  | .b4 a0 a1 => spL Tryz.f9 [1, 1, 1, 1, 1, 0] L_r53_Same_1 (((), ((), ())), ((a0, ()), ((a1, ()), ())))
theorem ok_r53_Same : FnOK Tryz.prog B0 9 M_r53_Same := okQ (mc ok_r53_sameGroups (mc ok_r53_sameTransport (mc ok_r53_sameFriend (mc ok_r53_sameLow (mc ok_r53_SameTimed msN))))) hsN (al [(3, L_r53_Same_1), (4, L_r53_Same_2), (9, L_r53_Same_3), (15, L_r53_Same_1)]) sp_r53_Same Tryz.func9 (fun p => by cases p <;> kernel_rfl) (by kernel_rfl) fun _ => rfl

/-! wireless/serial.Low -/
def T_serial_Low : S1 (Int × Int × Unit) Int
  | (a0, a1, _) => .br (decide (a1 ≤ 0)) (
    lfD (0 : Int)) (
    .br (decide (a1 ≥ 64)) (
      lfD a0) (
      .chk (decide (0 ≤ a1)) (
        lfD (bits .and .u64 a0 (IntKind.wrap .u64 ((IntKind.wrap .u64 ((1 : Int) * 2 ^ (min (Int.toNat a1) (IntKind.bits .u64)))) - 1))))))
def m_serial_Low (a0 a1 : Int) : Option Int := flow T_serial_Low (a0, a1, ())
def M_serial_Low : Mod U := ⟨[36, 3], 36, fun x => m_serial_Low x.1 x.2.1, by decide⟩
theorem ok_serial_Low : FnOK Tryz.prog B0 248 M_serial_Low := ok1 msN hsN Tryz.func248 (fun _ => by kernel_rfl) (by kernel_rfl)

/-! wireless/block.split -/
def T_block_split : S1 (Int × Unit) block_halves
  | (a0, _) => .bind 36 (m_serial_Low a0 (32 : Int)) (fun (x1 : Int) => 
    lfD (⟨(IntKind.wrap .u32 ((Int.fdiv a0 (2 ^ (32 : Nat))))), (IntKind.wrap .u32 (x1))⟩ : block_halves))
def m_block_split (a0 : Int) : Option block_halves := flow T_block_split (a0, ())
def M_block_split : Mod U := ⟨[36], 323, fun x => m_block_split x.1, by decide⟩
theorem ok_block_split : FnOK Tryz.prog B0 209 M_block_split := ok1 (mc ok_serial_Low msN) hsN Tryz.func209 (fun _ => by kernel_rfl) (by kernel_rfl)

/-! math/bits.RotateLeft64 -/
def T_math_bits_RotateLeft64 : S1 (Int × Int × Unit) Int
  | (a0, a1, _) => .chk (decide (0 ≤ (bits .and .u64 (IntKind.wrap .u64 (a1)) (63 : Int)))) (
    .chk (decide (0 ≤ (IntKind.wrap .u64 ((64 : Int) - (bits .and .u64 (IntKind.wrap .u64 (a1)) (63 : Int)))))) (
      lfD (bits .or .u64 (IntKind.wrap .u64 (a0 * 2 ^ (min (Int.toNat (bits .and .u64 (IntKind.wrap .u64 (a1)) (63 : Int))) (IntKind.bits .u64)))) (Int.fdiv a0 (2 ^ (min (Int.toNat (IntKind.wrap .u64 ((64 : Int) - (bits .and .u64 (IntKind.wrap .u64 (a1)) (63 : Int))))) (IntKind.bits .u64)))))))
def m_math_bits_RotateLeft64 (a0 a1 : Int) : Option Int := flow T_math_bits_RotateLeft64 (a0, a1, ())
def M_math_bits_RotateLeft64 : Mod U := ⟨[36, 3], 36, fun x => m_math_bits_RotateLeft64 x.1 x.2.1, by decide⟩
theorem ok_math_bits_RotateLeft64 : FnOK Tryz.prog B0 249 M_math_bits_RotateLeft64 := ok1 msN hsN Tryz.func249 (fun _ => by kernel_rfl) (by kernel_rfl)

/-! math/bits.RotateLeft32 -/
def T_math_bits_RotateLeft32 : S1 (Int × Int × Unit) Int
  | (a0, a1, _) => .chk (decide (0 ≤ (bits .and .u64 (IntKind.wrap .u64 (a1)) (31 : Int)))) (
    .chk (decide (0 ≤ (IntKind.wrap .u64 ((32 : Int) - (bits .and .u64 (IntKind.wrap .u64 (a1)) (31 : Int)))))) (
      lfD (bits .or .u32 (IntKind.wrap .u32 (a0 * 2 ^ (min (Int.toNat (bits .and .u64 (IntKind.wrap .u64 (a1)) (31 : Int))) (IntKind.bits .u32)))) (Int.fdiv a0 (2 ^ (min (Int.toNat (IntKind.wrap .u64 ((32 : Int) - (bits .and .u64 (IntKind.wrap .u64 (a1)) (31 : Int))))) (IntKind.bits .u32)))))))
def m_math_bits_RotateLeft32 (a0 a1 : Int) : Option Int := flow T_math_bits_RotateLeft32 (a0, a1, ())
def M_math_bits_RotateLeft32 : Mod U := ⟨[42, 3], 42, fun x => m_math_bits_RotateLeft32 x.1 x.2.1, by decide⟩
theorem ok_math_bits_RotateLeft32 : FnOK Tryz.prog B0 250 M_math_bits_RotateLeft32 := ok1 msN hsN Tryz.func250 (fun _ => by kernel_rfl) (by kernel_rfl)

/-! wireless/block.Round -/
def T_block_Round : S1 (Int × Int × Int × Unit) Int
  | (a0, a1, a2, _) => .bind 36 (m_math_bits_RotateLeft64 a0 (Int.tmod (w64 ((11 : Int) * (Int.tmod a1 64))) (64 : Int))) (fun (x1 : Int) => 
    .bind 36 (m_serial_Low x1 (32 : Int)) (fun (x2 : Int) => 
      .bind 42 (m_math_bits_RotateLeft32 (IntKind.wrap .u32 (a2 + (IntKind.wrap .u32 (x2)))) (7 : Int)) (fun (x3 : Int) => 
        .bind 42 (m_math_bits_RotateLeft32 (IntKind.wrap .u32 (x2)) (16 : Int)) (fun (x4 : Int) => 
          lfD (bits .xor .u32 (IntKind.wrap .u32 (x3 * 2654435761)) x4)))))
def m_block_Round (a0 a1 a2 : Int) : Option Int := flow T_block_Round (a0, a1, a2, ())
def M_block_Round : Mod U := ⟨[37, 3, 42], 42, fun x => m_block_Round x.1 x.2.1 x.2.2.1, by decide⟩
theorem ok_block_Round : FnOK Tryz.prog B0 210 M_block_Round := ok1 (mc ok_serial_Low (mc ok_math_bits_RotateLeft64 (mc ok_math_bits_RotateLeft32 msN))) hsN Tryz.func210 (fun _ => by kernel_rfl) (by kernel_rfl)

/-! (wireless/block.halves).join -/
def T_block_halves_join : S1 (block_halves × Unit) Int
  | (a0, _) => lfD (bits .or .u64 (IntKind.wrap .u64 ((IntKind.wrap .u64 (a0.x0)) * 2 ^ (32 : Nat))) (IntKind.wrap .u64 (a0.x1)))
def m_block_halves_join (a0 : block_halves) : Option Int := flow T_block_halves_join (a0, ())
def M_block_halves_join : Mod U := ⟨[323], 36, fun x => m_block_halves_join x.1, by decide⟩
theorem ok_block_halves_join : FnOK Tryz.prog B0 211 M_block_halves_join := ok1 msN hsN Tryz.func211 (fun _ => by kernel_rfl) (by kernel_rfl)

/-! wireless/block.Mix -/
inductive P_block_Mix where
  | b0 (a0 a1 : Int)
  | b1 (a0 a1 : Int) (a2 : block_halves)
def T_block_Mix : P_block_Mix → Tr U (Int ⊕ P_block_Mix)
  | .b0 a0 a1 => .bind 323 (m_block_split a1) (fun (x1 : block_halves) => 
    lfJ (.b1 a0 (0 : Int) x1))
  | .b1 a0 a1 a2 => .br (decide (a1 < 8)) (
    .bind 42 (m_block_Round a0 a1 a2.x1) (fun (x1 : Int) => 
      lfJ (.b1 a0 (w64 (a1 + 1)) (⟨a2.x1, (bits .xor .u32 a2.x0 x1)⟩ : block_halves)))) (
    .bind 36 (m_block_halves_join a2) (fun (x2 : Int) => 
      lfD x2))
def m_block_Mix (a0 a1 : Int) : Option Int := flow T_block_Mix (.b0 a0 a1)
def M_block_Mix : Mod U := ⟨[37, 36], 36, fun x => m_block_Mix x.1 x.2.1, by decide⟩
def L_block_Mix_1 : Lay := LT [0, 5, 9] [.v 37, .p 0, .v 3] [.s 323]
def sp_block_Mix : P_block_Mix → Spot U
  | .b0 a0 a1 => entP Tryz.f148 [37, 36] (a0, a1, ())
  | .b1 a0 a1 a2 => spL Tryz.f148 [1, 1, 0, 1, 0, 0, 0] L_block_Mix_1 (((a0, ()), ((), ((a1, ()), ()))), ((a2, ()), ()))
theorem ok_block_Mix : FnOK Tryz.prog B0 148 M_block_Mix := okQ (mc ok_block_split (mc ok_block_Round (mc ok_block_halves_join msN))) hsN (al [(3, L_block_Mix_1)]) sp_block_Mix Tryz.func148 (fun p => by cases p <;> kernel_rfl) (by kernel_rfl) fun _ => rfl

end
end Go.Proofs.YtpikcdlhgiooaaaGreat

/-
  mac.Tag: a loop over an iterator.
-/
namespace Go.Proofs.YtpikcdlhgiooaaaGreat
set_option linter.unusedVariables false
set_option maxRecDepth 100000
attribute [local go_sem] Go.Oper.semAt_some
open Go Go.RowKit Go.Shelf

def grpN (ys : List Int) : Nat → Int
  | 0 => 0
  | m + 1 => bits .or .u64 (grpN ys m) (IntKind.wrap .u64 (ys[m]?.getD 0 * 2 ^ (8 * m)))
def grpAt (xs : List Int) (k : Nat) : Int := grpN ((xs.drop (8 * k)).take 8) ((xs.drop (8 * k)).take 8).length
def gN (xs : List Int) : Nat := (xs.length + 7) / 8
theorem range_pre {a b : Nat} (h : a ≤ b) : List.range a <+: List.range b := by
  obtain ⟨d, rfl⟩ : ∃ d, b = a + d := ⟨b - a, by omega⟩
  rw [List.range_add]
  exact List.prefix_append _ _

theorem meas {L k : Nat} {a b : Int} (h : 8 * k < L) (ha : a = 8 * (k : Int)) (hb : b = 8 * (k : Int) + 8) : L + 8 - (intOf (.int .i64 b)).toNat < L + 8 - (intOf (.int .i64 a)).toNat := by
  subst ha hb
  simp only [intOf]
  omega

structure BytesAt (W : World) (Bm b o cap : Nat) (a : Option Addr) (xs : List Int) : Prop where
  box : W.cell? ⟨Bm, 0, none⟩ = some (.slice a xs.length cap)
  adr : xs ≠ [] → a = some ⟨b, o, none⟩
  cells : ∀ j (h : j < xs.length), W.cell? ⟨b, o + j, none⟩ = some (.int .u8 xs[j])
  len : xs.length ≤ cap
  max : cap ≤ maxLen
  bd : ∀ x ∈ xs, 0 ≤ x ∧ x < 256

set_option maxHeartbeats 1000000 in
theorem g1_in (F : Fence) (n : Nat) (hG1 : F.fn 212) (hro : F.round = none) (hn : 1 ≤ n) (xs : List Int) (hlen : xs.length ≤ 4611686018427387904) (b o cap : Nat) (a : Option Addr) (l Bm : Nat) (J Jx : List Nat → World → Prop)
    (hY : ∀ pre x W, J pre W → pre.length < gN xs → YieldAt F (n - 1) Tryz.prog l #[.int .u64 (grpAt xs x)] W fun e W' =>
      (e = .returned (.bool true) ∧ J (pre ++ [x]) W' ∧ (BytesAt W Bm b o cap a xs → BytesAt W' Bm b o cap a xs)) ∨ (e = .returned (.bool false) ∧ Jx (pre ++ [x]) W'))
    (W : World) (hB : BytesAt W Bm b o cap a xs) (h0 : J [] W) :
    CallsIn F n Tryz.prog 212 #[.func (.yield l) #[] #[], .pointer (some ⟨Bm, 0, none⟩)] W fun e W' => (∃ v, e = .returned v) ∧
      ((∃ ys, ys = List.range (gN xs) ∧ J ys W') ∨ (∃ pre, pre <+: List.range (gN xs) ∧ Jx pre W')) := by
  refine callsIn_of_wp Tryz.func212 rfl hG1 ?_ hro
  simp only [Tryz.ntmps212, List.size_toArray, List.length_cons, List.length_nil, Nat.reduceAdd, Nat.reduceSub, Array.replicate_succ, Array.replicate_zero, List.push_toArray, List.append_toArray, List.nil_append, List.cons_append]
  gi_wp2
  gi_loopw [3] (fun i wr => ∃ k : Nat, k ≤ gN xs ∧ i = .int .i64 ((8 * k : Nat) : Int) ∧ J (List.range k) wr ∧ BytesAt wr Bm b o cap a xs)
    (fun i _ => xs.length + 8 - (intOf i).toNat)
  case atStart => exact ⟨0, by omega, rfl, by simpa using h0, hB⟩
  case round =>
    obtain ⟨k, hk, rfl, hJ, hb⟩ := hrel
    have hbox := hb.box
    by_cases hlt : 8 * k < xs.length
    · have hl := hb.len
      have hne : xs ≠ [] := by rintro rfl; simp at hlt
      obtain rfl := hb.adr hne
      have hw : wrap64 (8 * (k : Int) + 8) = 8 * (k : Int) + 8 := by unfold wrap64; omega
      have c1 : (8 * (k : Int) < xs.length) := by omega
      have c2 : (0 ≤ 8 * (k : Int) + 8) := by omega
      have c3 : (0 ≤ 8 * (k : Int)) := by omega
      have c4 : (8 * (k : Int) ≤ 8 * (k : Int) + 8) := by omega
      have c5 : ((xs.length : Int) ≤ cap) := by omega
      by_cases h8 : 8 * k + 8 ≤ xs.length
      · have d1 : ¬ ((xs.length : Int) < 8 * (k : Int) + 8) := by omega
        have d2 : (8 * (k : Int) + 8 ≤ cap) := by omega
        have d3 : (8 * (k : Int) + 8).toNat = 8 * k + 8 := by omega
        have HL := Lib.hid hl; have HE := Lib.hid hlen; have HT := Lib.hid hlt; have HK := Lib.hid hk; have H8 := Lib.hid h8
        clear hl hne hlt hk h8 hlen
        gi_wp2
        gi_loopw [4, 22] (fun acc j wi => ∃ m : Nat, m ≤ 8 ∧ j = .int .i64 (m : Int) ∧ acc = .int .u64 (grpN ((xs.drop (8 * k)).take 8) m) ∧ J (List.range k) wi ∧ BytesAt wi Bm b o cap (some ⟨b, o, none⟩) xs)
          (fun _ j _ => 8 - (intOf j).toNat)
        case atStart => exact ⟨0, by omega, rfl, rfl, hJ, hb⟩
        case round =>
          obtain ⟨m, hm, rfl, rfl, hJ2, hb2⟩ := hrel
          have hb2b := hb2.box
          by_cases hm8 : m < 8
          · have e1 : ((m : Int) < 8) := by omega
            have e2 : (0 ≤ (m : Int)) := by omega
            have e3 : m < 8 := hm8
            have hj : 8 * k + m < xs.length := by have := H8.out; omega
            have hcell : wr.cell? ⟨b, o + 8 * k + m, none⟩ = some (.int .u8 xs[8 * k + m]) := by rw [Nat.add_assoc]; exact hb2.cells _ hj
            obtain ⟨bd1, bd2⟩ := hb2.bd _ (List.getElem_mem hj)
            have e4 : IntKind.wrap .u64 xs[8 * k + m] = xs[8 * k + m] := by simp only [IntKind.wrap, IntKind.signed, IntKind.bits, Bool.false_and, Bool.false_eq_true, if_false]; omega
            have e5 : wrap64 (8 * (m : Int)) = 8 * (m : Int) := by unfold wrap64; omega
            clear hm
            have hgn : grpN ((xs.drop (8 * k)).take 8) (m + 1) = bits .or .u64 (grpN ((xs.drop (8 * k)).take 8) m) (IntKind.wrap .u64 (xs[8 * k + m] * 2 ^ (8 * m))) := by
              simp only [grpN]
              rw [List.getElem?_take, if_pos hm8, List.getElem?_drop, List.getElem?_eq_getElem hj]
              rfl
            have HG := Lib.hid hgn
            clear hgn
            gi_wp2
            go_roundw
            case rel => exact ⟨m + 1, by omega, by go_num, by rw [HG.out], hJ2, hb2⟩
            case measure => simp [intOf]; omega
          · obtain rfl : m = 8 := by omega
            have hb3 := hb2
            obtain ⟨fn, tmps, assign, body, hy, hR⟩ := hY (List.range k) k wr hJ2 (by have := H8.out; simp [gN]; omega)
            have hg : grpN ((xs.drop (8 * k)).take 8) 8 = grpAt xs k := by
              have := H8.out
              unfold grpAt
              rw [show ((xs.drop (8 * k)).take 8).length = 8 by simp; omega]
            have hstep : List.range k ++ [k] = List.range (k + 1) := List.range_succ.symm
            have hpre : List.range (k + 1) <+: List.range (gN xs) := range_pre (by have := HT.out; unfold gN; omega)
            rw [hstep] at hR
            have HS := Lib.hid hstep; have HP := Lib.hid hpre; clear hstep hpre
            gi_wp2
            refine hR.mono ?_
            rintro e W3 (⟨rfl, hJ3, hk3⟩ | ⟨rfl, hJx3⟩)
            · have hb4 := hk3 hb3
              clear hk3
              gi_wp2
              go_roundw
              case rel => exact ⟨k + 1, by have := HT.out; unfold gN; omega, by simp only [Value.int.injEq, true_and]; omega, hJ3, hb4⟩
              case measure => exact meas (by have := HT.out; omega) (by omega) (by omega)
            · gi_wp2
              refine bodyPost_ret (results_none rfl _ _ _) rfl ?_
              exact ⟨⟨_, rfl⟩, .inr ⟨_, HP.out, hJx3⟩⟩
      · have d1 : ((xs.length : Int) < 8 * (k : Int) + 8) := by omega
        have d2 : (8 * (k : Int) ≤ xs.length) := by omega
        obtain ⟨q, hq⟩ : ∃ q, xs.length - 8 * k = q := ⟨_, rfl⟩
        have d3 : (0 ≤ (xs.length : Int)) := by omega
        have HQ := Lib.hid hq
        have HL := Lib.hid hl; have HE := Lib.hid hlen; have HT := Lib.hid hlt; have HK := Lib.hid hk; have H8 := Lib.hid h8
        clear hl hne hlt hk h8 hlen
        gi_wp2
        gi_loopw [4, 22] (fun acc j wi => ∃ m : Nat, m ≤ q ∧ j = .int .i64 (m : Int) ∧ acc = .int .u64 (grpN ((xs.drop (8 * k)).take 8) m) ∧ J (List.range k) wi ∧ BytesAt wi Bm b o cap (some ⟨b, o, none⟩) xs)
          (fun _ j _ => q - (intOf j).toNat)
        case atStart => exact ⟨0, by omega, rfl, rfl, hJ, hb⟩
        case round =>
          obtain ⟨m, hm, rfl, rfl, hJ2, hb2⟩ := hrel
          have hb2b := hb2.box
          by_cases hm8 : m < q
          · have e1 : ((m : Int) < q) := by omega
            have e2 : (0 ≤ (m : Int)) := by omega
            have e3 : m < xs.length - 8 * k := by have := HQ.out; omega
            have hj : 8 * k + m < xs.length := by have := HQ.out; omega
            have hcell : wr.cell? ⟨b, o + 8 * k + m, none⟩ = some (.int .u8 xs[8 * k + m]) := by rw [Nat.add_assoc]; exact hb2.cells _ hj
            obtain ⟨bd1, bd2⟩ := hb2.bd _ (List.getElem_mem hj)
            have e4 : IntKind.wrap .u64 xs[8 * k + m] = xs[8 * k + m] := by simp only [IntKind.wrap, IntKind.signed, IntKind.bits, Bool.false_and, Bool.false_eq_true, if_false]; omega
            have e5 : wrap64 (8 * (m : Int)) = 8 * (m : Int) := by have := HQ.out; have := H8.out; unfold wrap64; omega
            clear hm
            have hgn : grpN ((xs.drop (8 * k)).take 8) (m + 1) = bits .or .u64 (grpN ((xs.drop (8 * k)).take 8) m) (IntKind.wrap .u64 (xs[8 * k + m] * 2 ^ (8 * m))) := by
              simp only [grpN]
              rw [List.getElem?_take, if_pos (by have := HQ.out; have := H8.out; omega), List.getElem?_drop, List.getElem?_eq_getElem hj]
              rfl
            have HG := Lib.hid hgn
            clear hgn
            gi_wp2
            go_roundw
            case rel => exact ⟨m + 1, by omega, by go_num, by rw [HG.out], hJ2, hb2⟩
            case measure => simp [intOf]; omega
          · obtain rfl : m = q := by omega
            have hb3 := hb2
            obtain ⟨fn, tmps, assign, body, hy, hR⟩ := hY (List.range k) k wr hJ2 (by have := HT.out; simp [gN]; omega)
            have hg : grpN ((xs.drop (8 * k)).take 8) m = grpAt xs k := by
              have := H8.out
              unfold grpAt
              rw [show ((xs.drop (8 * k)).take 8).length = m by have := HQ.out; simp only [List.length_take, List.length_drop]; omega]
            have hstep : List.range k ++ [k] = List.range (k + 1) := List.range_succ.symm
            have hpre : List.range (k + 1) <+: List.range (gN xs) := range_pre (by have := HT.out; unfold gN; omega)
            rw [hstep] at hR
            have HS := Lib.hid hstep; have HP := Lib.hid hpre; clear hstep hpre
            gi_wp2
            refine hR.mono ?_
            rintro e W3 (⟨rfl, hJ3, hk3⟩ | ⟨rfl, hJx3⟩)
            · have hb4 := hk3 hb3
              clear hk3
              gi_wp2
              go_roundw
              case rel => exact ⟨k + 1, by have := HT.out; unfold gN; omega, by simp only [Value.int.injEq, true_and]; omega, hJ3, hb4⟩
              case measure => exact meas (by have := HT.out; omega) (by omega) (by omega)
            · gi_wp2
              refine bodyPost_ret (results_none rfl _ _ _) rfl ?_
              exact ⟨⟨_, rfl⟩, .inr ⟨_, HP.out, hJx3⟩⟩
    · have hkk : k ≤ (xs.length + 7) / 8 := hk
      have hdone : k = gN xs := by unfold gN; omega
      rw [hdone] at hJ
      have c1 : ¬ (8 * (k : Int) < xs.length) := by omega
      gi_wp2
      go_end0
      exact ⟨⟨_, rfl⟩, .inl hJ⟩

def tagF (mx : Int → Int → Option Int) (k : Int) (xs : List Int) : Option Int :=
  if xs.length ≤ 4611686018427387904 then (mx k xs.length).bind fun s => (List.range (gN xs)).foldlM (fun s g => mx k (bits .xor .u64 s (grpAt xs g))) s else none
def MixOK (F : Fence) (mx : Int → Int → Option Int) : Prop := ∀ k s r, (Lit.int .u64 k).wf = true → (Lit.int .u64 s).wf = true → mx k s = some r → (Lit.int .u64 r).wf = true ∧
  ∀ n w, CallsIn F n Tryz.prog 148 #[.int .u64 k, .int .u64 s] w fun e w' => e = .returned (.int .u64 r) ∧ Below w.heap.size w w'

structure RowAt (W : World) (b o cap : Nat) (a : Option Addr) (xs : List Int) : Prop where
  adr : xs ≠ [] → a = some ⟨b, o, none⟩
  cells : ∀ j (h : j < xs.length), W.cell? ⟨b, o + j, none⟩ = some (.int .u8 xs[j])
  len : xs.length ≤ cap
  max : cap ≤ maxLen
  bd : ∀ x ∈ xs, 0 ≤ x ∧ x < 256

theorem RowAt.below {W W' : World} {n b o cap : Nat} {a : Option Addr} {xs : List Int} (h : RowAt W b o cap a xs) (hb : Below n W W') (hn : W.heap.size ≤ n ∨ b < n) : RowAt W' b o cap a xs :=
  ⟨h.adr, fun j hj => (hb.cell (p := ⟨b, o + j, none⟩) (by
    rcases hn with hn | hn
    · exact Nat.lt_of_lt_of_le (by have := h.cells j hj; unfold World.cell? at this; split at this <;> first | exact (Array.getElem?_eq_some_iff.1 ‹_›).1 | cases this) hn
    · exact hn)).trans (h.cells j hj), h.len, h.max, h.bd⟩

theorem BytesAt.of {W : World} {Bm b o cap : Nat} {a : Option Addr} {xs : List Int} (h : RowAt W b o cap a xs) (hb : W.cell? ⟨Bm, 0, none⟩ = some (.slice a xs.length cap)) : BytesAt W Bm b o cap a xs := ⟨hb, h.adr, h.cells, h.len, h.max, h.bd⟩
theorem BytesAt.row {W : World} {Bm b o cap : Nat} {a : Option Addr} {xs : List Int} (h : BytesAt W Bm b o cap a xs) : RowAt W b o cap a xs := ⟨h.adr, h.cells, h.len, h.max, h.bd⟩
theorem RowAt.same {W W' : World} {b o cap : Nat} {a : Option Addr} {xs : List Int} (h : RowAt W b o cap a xs) (hb : xs ≠ [] → W'.heap[b]? = W.heap[b]?) : RowAt W' b o cap a xs :=
  ⟨h.adr, fun j hj => (World.cell?_of_block (hb (by rintro rfl; cases hj))).trans (h.cells j hj), h.len, h.max, h.bd⟩
theorem RowAt.lt {W : World} {b o cap : Nat} {a : Option Addr} {xs : List Int} (h : RowAt W b o cap a xs) (hx : xs ≠ []) : b < W.heap.size := by
  have := h.cells 0 (List.length_pos_iff.2 hx)
  unfold World.cell? at this
  split at this <;> first | exact (Array.getElem?_eq_some_iff.1 ‹_›).1 | cases this

structure TagI (k : Int) (w : World) (n5 : Nat) (s : Int) (W : World) : Prop where
  key : Boxed W w.heap.size 37 (.int .u64 k)
  st : Boxed W n5 36 (.int .u64 s)
  below : Below w.heap.size w W
theorem boxed_own2 {W W' : World} {row : Option Nat} {B B0 : Nat} {t : TypeId} {v : Value} (h : Boxed W B t v) (hg : W.grownBy W' row) (hr : ∀ r, row = some r → B0 ≤ r ∧ ∃ o : Obj, W.heap[r]? = some o ∧ o.isCells = false) : Boxed W' B t v := by
  refine h.kept hg ?_
  intro e
  obtain ⟨_, o, ho, hc⟩ := hr B e.symm
  rw [show W.heap[B]? = _ from h] at ho
  cases ho
  cases hc
theorem TagI.own {k : Int} {w : World} {n5 : Nat} {s : Int} {W W' : World} {row : Option Nat} {B0 : Nat} (hB : w.heap.size ≤ B0) (h : TagI k w n5 s W) (hg : W.grownBy W' row) (hr : ∀ r, row = some r → B0 ≤ r ∧ ∃ o : Obj, W.heap[r]? = some o ∧ o.isCells = false) : TagI k w n5 s W' :=
  ⟨boxed_own2 h.key hg hr, boxed_own2 h.st hg hr, h.below.grown hg h.below.size (fun k e => Nat.le_trans hB (hr k e).1)⟩
theorem wf_x (a b : Int) : (Lit.int .u64 (bits .xor .u64 a b)).wf = true := by
  have := bits_within .xor .u64 a b
  simp only [Lit.wf, Bool.and_eq_true, decide_eq_true_eq]
  exact this

theorem groups_in (F : Fence) (n : Nat) (hG : F.fn 149) (hro : F.round = none) (a : Option Addr) (l c : Nat) (w : World) :
    CallsIn F n Tryz.prog 149 #[.slice a l c] w fun e w' => e = .returned (.func (.func 212) #[] #[.pointer (some ⟨w.heap.size, 0, none⟩)]) ∧ w' = w.alloc (.cells #[.slice a l c] 92) := by
  refine callsIn_of_wp Tryz.func149 rfl hG ?_ hro
  simp only [Tryz.ntmps149, List.size_toArray, List.length_cons, List.length_nil, Nat.reduceAdd, Nat.reduceSub, Array.replicate_succ, Array.replicate_zero, List.push_toArray, List.append_toArray, List.nil_append, List.cons_append]
  gi_wp2
  go_ret
  exact ⟨rfl, rfl⟩

set_option maxHeartbeats 2000000 in
theorem tag_in (F : Fence) (hMIX : F.fn 148) (hG : F.fn 149) (hG1 : F.fn 212) (hSELF : F.fn 113) (hro : F.round = none) (mx : Int → Int → Option Int) (hM : MixOK F mx) (hT : ∀ k s, (Lit.int .u64 s).wf = true → ∃ r, mx k s = some r) (n : Nat) (hn : 3 ≤ n) (k : Int) (xs : List Int) (r : Int) (hk : (Lit.int .u64 k).wf = true) (hr : tagF mx k xs = some r) (b o cap : Nat) (a : Option Addr) (w : World) (hB : RowAt w b o cap a xs) :
    CallsIn F n Tryz.prog 113 #[.int .u64 k, .slice a xs.length cap] w fun e W' => e = .returned (.int .u64 r) ∧ Below w.heap.size w W' := by
  unfold tagF at hr
  split at hr
  · rename_i hlen
    cases h0 : mx k xs.length with
    | none => rw [h0] at hr; cases hr
    | some s0 =>
      rw [h0] at hr
      change (List.range (gN xs)).foldlM (fun s g => mx k (bits .xor .u64 s (grpAt xs g))) s0 = some r at hr
      have hlw : (Lit.int .u64 (xs.length : Int)).wf = true := by simp [Lit.wf, IntKind.min, IntKind.max, IntKind.signed, IntKind.bits]; omega
      obtain ⟨hs0, hC⟩ := hM k xs.length s0 hk hlw h0
      have h1 : 1 ≤ n := by omega
      refine callsIn_of_wp_marks Tryz.func113 rfl hSELF ?_ hro
      simp only [Tryz.ntmps113, List.size_toArray, List.length_cons, List.length_nil, Nat.reduceAdd, Nat.reduceSub, Array.replicate_succ, Array.replicate_zero, List.push_toArray, List.append_toArray, List.nil_append, List.cons_append]
      have hcv : IntKind.wrap .u64 (xs.length : Int) = xs.length := by simp only [IntKind.wrap, IntKind.signed, IntKind.bits, Bool.false_and, Bool.false_eq_true, if_false]; omega
      have HR := Lib.hid hr; have HS := Lib.hid hs0; have HL := Lib.hid hlen
      clear hr hs0 hlen
      gi_wp2_with (gi_at_call 148; refine (hC (n - 1) _).mono ?_; rintro e w1 ⟨rfl, hb1⟩)
      gi_wp2_with (gi_at_call 149; refine (groups_in F (n - 1) hG hro _ _ _ _).mono ?_; rintro e w2 ⟨rfl, rfl⟩)
      have hb1' : w.heap.size < w1.heap.size := by have := hb1.size; simp at this; omega
      obtain ⟨W0, hW0⟩ : ∃ W0, (w1.alloc (Obj.cells #[Value.int IntKind.u64 s0] 36)).alloc (Obj.cells #[Value.slice a xs.length cap] 92) = W0 := ⟨_, rfl⟩
      have hk1 : Boxed w1 w.heap.size 37 (.int .u64 k) := (hb1.block _ (by simp)).trans (Boxed.new w 37 _)
      have hI0 : TagI k w w1.heap.size s0 W0 := by
        rw [← hW0]
        refine ⟨(hk1.alloc _).alloc _, (Boxed.new w1 36 (.int .u64 s0)).alloc _, ?_⟩
        exact (((((Below.refl _ w).alloc (Nat.le_refl _) _).trans (hb1.mono (by simp))).alloc (Nat.le_of_lt hb1') _).alloc (by simp; omega) _)
      have hbyt : BytesAt W0 (w1.heap.size + 1) b o cap a xs := by
        refine BytesAt.of (hB.below hI0.below (.inl (Nat.le_refl _))) ?_
        rw [← hW0]
        simp
      have hs0' : W0.heap.size = w1.heap.size + 2 := by rw [← hW0]; simp
      rw [hW0]
      have HB := Lib.hid hbyt
      clear hW0 hk1
      refine wpIn_rangeFunc_ownG hro h1 (gf := 212) (lb := #[.pointer (some ⟨w1.heap.size + 1, 0, none⟩)]) rfl hG1 (enters_of Tryz.func212 (by kernel_rfl) rfl) (α := Nat) (encs := fun x => #[Value.int .u64 (grpAt xs x)])
        (Kp := fun A B => BytesAt A (w1.heap.size + 1) b o cap a xs → BytesAt B (w1.heap.size + 1) b o cap a xs) (S := fun ys => ys = List.range (gN xs)) (Sp := fun pre => pre <+: List.range (gN xs)) (N := gN xs) (w0 := W0)
        (fun l J Jx W hW _ _ hY hJ => g1_in F (n - 1) hG1 hro (by omega) xs HL.out b o cap a l (w1.heap.size + 1) J Jx (fun pre x W1 h1 h2 => hY pre x W1 h1 h2)
          W (BytesAt.of (hbyt.row.below hW (.inl (Nat.le_refl _))) ((hW.cell (p := ⟨w1.heap.size + 1, 0, none⟩) (by simp; omega)).trans hbyt.box)) hJ)
        (fun h k => fun x => k (h x))
        (fun W l o o' hl ho hc _ hby => BytesAt.of (hby.row.same fun hx => World.putObj_heap_other (by have := hbyt.row.lt hx; omega)) ((World.cell?_of_block (World.putObj_heap_other (by simp only; omega))).trans hby.box))
        (Below.refl _ _) (fun _ => rfl)
        (fun pre W => ∃ s, pre.foldlM (fun s g => mx k (bits .xor .u64 s (grpAt xs g))) s0 = some s ∧ (Lit.int .u64 s).wf = true ∧ TagI k w w1.heap.size s W)
        (fun _ _ _ => False)
        (fun p A B row hs hg hr => by obtain ⟨s, q1, q2, q3⟩ := hs; exact ⟨s, q1, q2, q3.own (by omega) hg hr⟩)
        (fun c p A B row hs hg hr => hs)
        ⟨s0, rfl, HS.out, hI0⟩
        (fun x => { tmps := #[.int .u64 k, .slice a xs.length cap, .pointer (some ⟨w.heap.size, 0, none⟩), undef, .int .u64 0, .pointer (some ⟨w1.heap.size, 0, none⟩), .int .u64 (grpAt xs x), .int .u64 k, .slice a xs.length cap, .int .i64 xs.length, .int .u64 xs.length, .int .u64 s0, .slice a xs.length cap, .func (.func 212) #[] #[.pointer (some ⟨w1.heap.size + 1, 0, none⟩)], .int .u64 (grpAt xs x), undef, undef, undef, undef, undef, undef], defers := [] }) ?assign ?body ?done ?stop
      case assign =>
        intro l x W K hK
        gi_wp2
        exact hK
      case body =>
        rintro l pre x W ⟨s, q1, q2, hI⟩ hlen
        obtain ⟨r', hr'⟩ := hT k (bits .xor .u64 s (grpAt xs x)) (wf_x _ _)
        obtain ⟨hw', hC'⟩ := hM k _ r' hk (wf_x _ _) hr'
        have hc0 := hI.key.cell
        have hc1 := hI.st.cell
        have hf1 := hI.st.frozen
        have hMIXl : (F.inRound l).fn 148 := hMIX
        have h3 : 1 ≤ n - 1 - 1 := by omega
        gi_wp2_with (gi_at_call 148; refine (CallsIn.inRound l (hC' (n - 1 - 1 - 1) _)).mono ?_; rintro e W2 ⟨rfl, hb2⟩; have hst2 : Boxed W2 w1.heap.size 36 (.int .u64 s) := (hb2.block _ hI.st.lt).trans hI.st; have hky2 : Boxed W2 w.heap.size 37 (.int .u64 k) := (hb2.block _ hI.key.lt).trans hI.key; have hc2 := hst2.cell; have hf2 := hst2.frozen; clear hc0 hc1 hf1)
        refine ⟨KeepsFrom.trans ⟨hb2.size, fun j o _ hj _ => (hb2.block _ (Array.getElem?_eq_some_iff.1 hj).1).trans hj⟩ (KeepsFrom.of_grownBy (grownBy_setCell' W2 _ _) (fun j e => by cases e; omega)), fun hby => ?_, r', ?_, hw', ?_⟩
        · refine BytesAt.of ((hby.row.below hb2 (.inl (Nat.le_refl _))).same fun hx => Below.heap_setCell _ _ _ _ (by have := hB.lt hx; simp only; omega)) ?_
          have hbm : w1.heap.size + 1 < W.heap.size := by
            have := hby.box
            unfold World.cell? at this
            split at this <;> first | exact (Array.getElem?_eq_some_iff.1 ‹_›).1 | cases this
          exact (World.cell?_of_block (Below.heap_setCell _ _ _ _ (by simp only; omega))).trans ((hb2.cell (p := ⟨w1.heap.size + 1, 0, none⟩) hbm).trans hby.box)
        · simp only [List.foldlM_append, q1, List.foldlM_cons, List.foldlM_nil, Option.bind_eq_bind, Option.bind_some, hr', Option.pure_def]
        · exact ⟨(Below.heap_setCell _ _ _ _ (by simp only; omega)).trans hky2, hst2.set _, (hI.below.trans (hb2.mono hI.below.size)).setCell (p := ⟨w1.heap.size, 0, none⟩) (Nat.le_of_lt hb1') _⟩
      case done =>
        rintro D ys W hD rfl ⟨s, q1, q2, hI⟩ hK
        have hsr : s = r := Option.some.inj (q1.symm.trans HR.out)
        subst hsr
        have hc1 := hI.st.cell
        have hf1 := hI.st.frozen
        gi_wp2
        refine ⟨by simp, .inl ⟨_, _, rfl, run_takeDeferred hK, ?_⟩⟩
        refine ⟨.int .u64 s, ?_, ?_, ?_⟩
        · simp [results, Tryz.f113, go_sem]
        · rfl
        · exact hI.below.trans (belowK_b (w := w) (Nat.le_refl _) _ D _ _ (by omega) hK rfl rfl)
      case stop =>
        rintro D c pre W hD hp hf hK
        exact hf.elim
  · cases hr

open Go.Proofs.YtpikcdlhgiooaaaGreat.Le

theorem reps_bytes {σ : Sg} {w : World} : ∀ {xs : List Int} {us : List Value}, Reps σ w (xs.map fun x => V.lit (.int .u8 x)) us → us = xs.map (fun x => Value.int .u8 x) ∧ ∀ x ∈ xs, 0 ≤ x ∧ x < 256 := by
  intro xs
  induction xs with
  | nil => intro us h; cases h.nil_left; exact ⟨rfl, by simp⟩
  | cons x xs ih =>
    intro us h
    obtain ⟨v, vs, rfl, h1, h2⟩ := h.cons_left
    obtain ⟨i1, i2⟩ := ih h2
    cases h1 with
    | lit hl _ =>
      refine ⟨by rw [i1]; rfl, fun y hy => ?_⟩
      rcases List.mem_cons.1 hy with rfl | hy
      · simp [leaf, Lit.wf, IntKind.min, IntKind.max, IntKind.signed, IntKind.bits] at hl
        omega
      · exact i2 y hy

theorem row_of {σ : Sg} {w : World} {xs : List Int} {v : Value} (h : Reps σ w [.sl false 1 (xs.map fun x => V.lit (.int .u8 x))] [v]) : ∃ a b o cap, v = .slice a xs.length cap ∧ RowAt w b o cap a xs := by
  generalize hes : (xs.map fun x => V.lit (.int .u8 x)) = es at h
  cases h with
  | slnil _ =>
    have : xs = [] := by simpa using hes
    subst this
    exact ⟨none, 0, 0, 0, rfl, ⟨fun h => absurd rfl h, fun j hj => (by cases hj), Nat.le_refl _, Nat.zero_le _, by simp⟩⟩
  | slemp a _ =>
    have : xs = [] := by simpa using hes
    subst this
    exact ⟨_, 0, 0, _, rfl, ⟨fun h => absurd rfl h, fun j hj => (by cases hj), Nat.zero_le _, by first | exact Nat.zero_le _ | assumption, by simp⟩⟩
  | sl b o c e h0 h1 h2 h3 h4 h5 h6 _ =>
    subst hes
    obtain ⟨rfl, hbd⟩ := reps_bytes h0
    refine ⟨_, b, o, c, by rw [List.length_map], ⟨fun _ => rfl, fun j hj => ?_, by simpa using h4, h5, hbd⟩⟩
    refine (h6 j (.int .u8 xs[j]) ?_).2
    have : ∀ l : List Int, flat (l.map fun x => Value.int .u8 x) = l.map fun x => Value.int .u8 x := by
      intro l
      induction l with
      | nil => rfl
      | cons y l ih => rw [List.map_cons, flat_cons, ih]; rfl
    rw [this, List.getElem?_map, List.getElem?_eq_getElem hj]
    rfl

theorem u64_nn (n : Int) : 0 ≤ IntKind.wrap .u64 n := by simp only [IntKind.wrap, IntKind.signed, IntKind.bits, Bool.false_and, Bool.false_eq_true, if_false]; omega
theorem band_nn (a b : Int) : 0 ≤ bits .and .u64 a b := (bits_within .and .u64 a b).1
theorem t_rot64 (a b : Int) : ∃ r, m_math_bits_RotateLeft64 a b = some r := ⟨_, (flow_eq _ _).trans (by simp only [T_math_bits_RotateLeft64, Tr.den, flowJ, u64_nn, band_nn, decide_true, cond_true]; rfl)⟩
theorem t_rot32 (a b : Int) : ∃ r, m_math_bits_RotateLeft32 a b = some r := ⟨_, (flow_eq _ _).trans (by simp only [T_math_bits_RotateLeft32, Tr.den, flowJ, u64_nn, band_nn, decide_true, cond_true]; rfl)⟩
theorem t_low32 (a : Int) : ∃ r, m_serial_Low a 32 = some r := ⟨_, (flow_eq _ _).trans (by simp [T_serial_Low, Tr.den, flowJ]; rfl)⟩
theorem t_split (a : Int) : ∃ r, m_block_split a = some r := by
  obtain ⟨x, hx⟩ := t_low32 a
  exact ⟨_, (flow_eq _ _).trans (by simp only [T_block_split, Tr.den, flowJ, hx, Option.bind_some]; rfl)⟩
theorem t_join (a : block_halves) : ∃ r, m_block_halves_join a = some r := ⟨_, (flow_eq _ _).trans (by simp only [T_block_halves_join, Tr.den, flowJ]; rfl)⟩
theorem t_Round (a b c : Int) : ∃ r, m_block_Round a b c = some r := by
  obtain ⟨x1, h1⟩ := t_rot64 a (Int.tmod (w64 ((11 : Int) * (Int.tmod b (64 : Int)))) (64 : Int))
  obtain ⟨x2, h2⟩ := t_low32 x1
  obtain ⟨x3, h3⟩ := t_rot32 (IntKind.wrap .u32 (c + (IntKind.wrap .u32 (x2)))) 7
  obtain ⟨x4, h4⟩ := t_rot32 (IntKind.wrap .u32 (x2)) 16
  exact ⟨_, (flow_eq _ _).trans (by simp only [T_block_Round, Tr.den, flowJ, h1, h2, h3, h4, Option.bind_some]; rfl)⟩
theorem t_Mix1 (k : Int) : ∀ (n : Nat) (i : Int) (h : block_halves), 0 ≤ i → 8 - i ≤ n → ∃ r, flow T_block_Mix (.b1 k i h) = some r := by
  intro n
  induction n with
  | zero =>
    intro i h h0 h8
    obtain ⟨r, hr⟩ := t_join h
    have : decide (i < (8 : Int)) = false := by simp; omega
    exact ⟨r, (flow_eq _ _).trans (by simp only [T_block_Mix, Tr.den, flowJ, this, cond_false, hr, Option.bind_some])⟩
  | succ n ih =>
    intro i h h0 h8
    by_cases hi : i < 8
    · obtain ⟨x, hx⟩ := t_Round k i h.x1
      have hw : w64 (i + 1) = i + 1 := by simp [w64, IntKind.wrap, IntKind.signed, IntKind.bits]; split <;> omega
      obtain ⟨r, hr⟩ := ih (i + 1) ⟨h.x1, bits .xor .u32 h.x0 x⟩ (by omega) (by omega)
      have : decide (i < (8 : Int)) = true := by simp [hi]
      exact ⟨r, (flow_eq _ _).trans (by simp only [T_block_Mix, Tr.den, flowJ, this, cond_true, hx, Option.bind_some, hw, hr])⟩
    · obtain ⟨r, hr⟩ := t_join h
      have : decide (i < (8 : Int)) = false := by simp; omega
      exact ⟨r, (flow_eq _ _).trans (by simp only [T_block_Mix, Tr.den, flowJ, this, cond_false, hr, Option.bind_some])⟩
theorem t_Mix (k s : Int) : ∃ r, m_block_Mix k s = some r := by
  obtain ⟨x, hx⟩ := t_split s
  obtain ⟨r, hr⟩ := t_Mix1 k 8 0 x (by omega) (by omega)
  exact ⟨r, (flow_eq _ _).trans (by simp only [T_block_Mix, Tr.den, flowJ, hx, Option.bind_some, hr])⟩

theorem mix_okF (ok : FnOK Tryz.prog B0 148 M_block_Mix) : MixOK Fence.wide m_block_Mix := by
  intro k s r hk hs hr
  have key : ∀ w, Calls Tryz.prog 148 #[.int .u64 k, .int .u64 s] w fun e w' => (e = .returned (.int .u64 r) ∧ Below w.heap.size w w') ∧ (Lit.int .u64 r).wf = true := fun w => by
    have := ok.pure (k, s, ()) r hr (fun _ _ => False) w [.int .u64 k, .int .u64 s] (fun _ _ h => h.elim) (fun g r h => by cases h) (.lit hk (.lit hs .nil))
    refine this.mono ?_
    rintro e w' ⟨u, fz', rfl, hb, _, _, _, h1, _⟩
    cases h1 with
    | lit hl _ => exact ⟨⟨rfl, hb⟩, hl⟩
  refine ⟨?_, fun n w => callsIn_wide.2 ((key w).mono fun e w' h => h.1)⟩
  obtain ⟨e, w', fr, h, _⟩ := key { heap := #[], os := default, tape := default, output := default, drawn := default } []
  exact h.2

theorem fold_wf {F : Fence} {mx : Int → Int → Option Int} (hM : MixOK F mx) {k : Int} (hk : (Lit.int .u64 k).wf = true) {xs : List Int} : ∀ (l : List Nat) (s r : Int), (Lit.int .u64 s).wf = true → l.foldlM (fun s g => mx k (bits .xor .u64 s (grpAt xs g))) s = some r → (Lit.int .u64 r).wf = true := by
  intro l
  induction l with
  | nil => intro s r hs h; cases h; exact hs
  | cons g l ih =>
    intro s r hs h
    rw [List.foldlM_cons] at h
    obtain ⟨s', h1, h2⟩ := Option.bind_eq_some_iff.1 h
    exact ih s' r (hM k _ s' hk (Go.Proofs.YtpikcdlhgiooaaaGreat.wf_x _ _) h1).1 h2
theorem tag_wf {F : Fence} {mx : Int → Int → Option Int} (hM : MixOK F mx) {k : Int} (hk : (Lit.int .u64 k).wf = true) {xs : List Int} {r : Int} (h : tagF mx k xs = some r) : (Lit.int .u64 r).wf = true := by
  unfold tagF at h
  split at h
  · rename_i hlen
    obtain ⟨s', h1, h2⟩ := Option.bind_eq_some_iff.1 h
    refine fold_wf hM hk _ s' r (hM k _ s' hk ?_ h1).1 h2
    simp [Lit.wf, IntKind.min, IntKind.max, IntKind.signed, IntKind.bits]
    omega
  · cases h
noncomputable def m_mac_Tag (k : Int) (xs : List Int) : Option Int := tagF m_block_Mix k xs
noncomputable def M_mac_Tag : Mod U := ⟨[37, 92], 36, fun x => m_mac_Tag x.1 x.2.1, by decide⟩
theorem ok_mac_Tag0 (ok : FnOK Tryz.prog B0 148 M_block_Mix) (hT : ∀ k s, (Lit.int .u64 s).wf = true → ∃ r, m_block_Mix k s = some r) : FnOK Tryz.prog B0 113 M_mac_Tag := by
  refine ⟨⟨Tryz.f113, Tryz.func113, by kernel_rfl, by kernel_rfl⟩, ?_⟩
  rintro ⟨k, xs, _⟩ r ha fz w vs hcells hg hr
  obtain ⟨v0, vs, rfl, h1, hr⟩ := hr.cons_left
  obtain ⟨v1, vs, rfl, h2, hr⟩ := hr.cons_left
  cases hr.nil_left
  obtain ⟨a, b, o, cap, rfl, hrow⟩ := row_of (xs := xs) h2
  cases h1 with
  | lit hl _ =>
    have hw : (Lit.int .u64 r).wf = true := tag_wf (mix_okF ok) hl ha
    refine (callsIn_wide.1 (tag_in Fence.wide trivial trivial trivial trivial rfl m_block_Mix (mix_okF ok) hT 3 (by omega) k xs r hl ha b o cap a w hrow)).mono ?_
    rintro e w' ⟨rfl, hb⟩
    refine ⟨_, fz, rfl, hb, fun _ _ h => h, fun _ _ h _ => h, fun b c h => ?_, .lit hw .nil, rfl⟩
    obtain ⟨u, hu⟩ := hcells b c h
    exact ⟨u, (hb.cell (p := ⟨b, c, none⟩) (cell_lt hu)).trans hu⟩
theorem ok_mac_Tag : FnOK Tryz.prog B0 113 M_mac_Tag := ok_mac_Tag0 ok_block_Mix fun k s _ => t_Mix k s
end Go.Proofs.YtpikcdlhgiooaaaGreat

/-
  Functions of the program as functions of Lean (printed by a program of mine).
-/
namespace Go.Proofs.YtpikcdlhgiooaaaGreat
open Go Go.Proofs.YtpikcdlhgiooaaaGreat.Le
set_option linter.unusedVariables false
set_option maxRecDepth 100000
noncomputable section
/-! slices.Clone[[]wireless/api.Node,wireless/api.Node] -/
theorem clone_slices_Clone_Node : CloneOK Tryz.prog 36 46 480 59 := clone_ok mix_ok (t := 27) (tb := 4) (e := 59) Tryz.func36 (by kernel_rfl) (by kernel_rfl) (by kernel_rfl) (by kernel_rfl) (by kernel_rfl) (by kernel_rfl) (by kernel_rfl) (by decide)
def m_slices_Clone_Node (a0 : List api_Node) : Option Y_slices_Clone_Node := if a0.length * 480 ≤ lim ∧ a0.length ≤ maxLen then some ⟨a0⟩ else none
def sin_slices_Clone_Node : Shape := ⟨[.one (.v 27 1 false)], []⟩
def sout_slices_Clone_Node : Shape := ⟨[.one (.own 59 0)], [.row 59 true]⟩
noncomputable def H_slices_Clone_Node : HMod U := { fa := [[.s 59 46]], fb := [], sin := sin_slices_Clone_Node, sout := sout_slices_Clone_Node, one := true, ky := 1392, toX := fun (y : Y_slices_Clone_Node) => (((), ()), (y.q0, ())), fn := fun x => m_slices_Clone_Node x.1.1.1, ok := okS rfl }
theorem ok_slices_Clone_Node : HFnOK Tryz.prog B0 36 H_slices_Clone_Node := clone_hfn clone_slices_Clone_Node fun x y hx => by
  simp only [H_slices_Clone_Node, m_slices_Clone_Node] at hx
  split at hx
  · rename_i h
    cases hx
    exact ⟨_, rfl, rfl, by simp [H_slices_Clone_Node, HMod.out, sout_slices_Clone_Node, Shape.enc, lensB, encA, encSp, encP, encB, toV], by simp [H_slices_Clone_Node, HMod.out, sout_slices_Clone_Node, Shape.enc, lensB, encA, encSp, encP, encB, toH, toBox, newBox], by simpa using h.1, by simpa using h.2⟩
  · cases hx

/-! slices.Clone[[]wireless/api.Pair,wireless/api.Pair] -/
theorem clone_slices_Clone_Pair : CloneOK Tryz.prog 38 2 16 90 := clone_ok mix_ok (t := 23) (tb := 4) (e := 90) Tryz.func38 (by kernel_rfl) (by kernel_rfl) (by kernel_rfl) (by kernel_rfl) (by kernel_rfl) (by kernel_rfl) (by kernel_rfl) (by decide)
def m_slices_Clone_Pair (a0 : List api_Pair) : Option Y_slices_Clone_Pair := if a0.length * 16 ≤ lim ∧ a0.length ≤ maxLen then some ⟨a0⟩ else none
def sin_slices_Clone_Pair : Shape := ⟨[.one (.v 23 1 false)], []⟩
def sout_slices_Clone_Pair : Shape := ⟨[.one (.own 90 0)], [.row 90 true]⟩
noncomputable def H_slices_Clone_Pair : HMod U := { fa := [[.s 90 2]], fb := [], sin := sin_slices_Clone_Pair, sout := sout_slices_Clone_Pair, one := true, ky := 1393, toX := fun (y : Y_slices_Clone_Pair) => (((), ()), (y.q0, ())), fn := fun x => m_slices_Clone_Pair x.1.1.1, ok := okS rfl }
theorem ok_slices_Clone_Pair : HFnOK Tryz.prog B0 38 H_slices_Clone_Pair := clone_hfn clone_slices_Clone_Pair fun x y hx => by
  simp only [H_slices_Clone_Pair, m_slices_Clone_Pair] at hx
  split at hx
  · rename_i h
    cases hx
    exact ⟨_, rfl, rfl, by simp [H_slices_Clone_Pair, HMod.out, sout_slices_Clone_Pair, Shape.enc, lensB, encA, encSp, encP, encB, toV], by simp [H_slices_Clone_Pair, HMod.out, sout_slices_Clone_Pair, Shape.enc, lensB, encA, encSp, encP, encB, toH, toBox, newBox], by simpa using h.1, by simpa using h.2⟩
  · cases hx

/-! slices.Clone[[]wireless/api.Loss,wireless/api.Loss] -/
theorem clone_slices_Clone_Loss : CloneOK Tryz.prog 39 2 16 117 := clone_ok mix_ok (t := 24) (tb := 4) (e := 117) Tryz.func39 (by kernel_rfl) (by kernel_rfl) (by kernel_rfl) (by kernel_rfl) (by kernel_rfl) (by kernel_rfl) (by kernel_rfl) (by decide)
def m_slices_Clone_Loss (a0 : List api_Loss) : Option Y_slices_Clone_Loss := if a0.length * 16 ≤ lim ∧ a0.length ≤ maxLen then some ⟨a0⟩ else none
def sin_slices_Clone_Loss : Shape := ⟨[.one (.v 24 1 false)], []⟩
def sout_slices_Clone_Loss : Shape := ⟨[.one (.own 117 0)], [.row 117 true]⟩
noncomputable def H_slices_Clone_Loss : HMod U := { fa := [[.s 117 2]], fb := [], sin := sin_slices_Clone_Loss, sout := sout_slices_Clone_Loss, one := true, ky := 1394, toX := fun (y : Y_slices_Clone_Loss) => (((), ()), (y.q0, ())), fn := fun x => m_slices_Clone_Loss x.1.1.1, ok := okS rfl }
theorem ok_slices_Clone_Loss : HFnOK Tryz.prog B0 39 H_slices_Clone_Loss := clone_hfn clone_slices_Clone_Loss fun x y hx => by
  simp only [H_slices_Clone_Loss, m_slices_Clone_Loss] at hx
  split at hx
  · rename_i h
    cases hx
    exact ⟨_, rfl, rfl, by simp [H_slices_Clone_Loss, HMod.out, sout_slices_Clone_Loss, Shape.enc, lensB, encA, encSp, encP, encB, toV], by simp [H_slices_Clone_Loss, HMod.out, sout_slices_Clone_Loss, Shape.enc, lensB, encA, encSp, encP, encB, toH, toBox, newBox], by simpa using h.1, by simpa using h.2⟩
  · cases hx

/-! slices.Clone[[]wireless/api.Hop,wireless/api.Hop] -/
theorem clone_slices_Clone_Hop : CloneOK Tryz.prog 40 4 48 109 := clone_ok mix_ok (t := 28) (tb := 4) (e := 109) Tryz.func40 (by kernel_rfl) (by kernel_rfl) (by kernel_rfl) (by kernel_rfl) (by kernel_rfl) (by kernel_rfl) (by kernel_rfl) (by decide)
def m_slices_Clone_Hop (a0 : List api_Hop) : Option Y_slices_Clone_Hop := if a0.length * 48 ≤ lim ∧ a0.length ≤ maxLen then some ⟨a0⟩ else none
def sin_slices_Clone_Hop : Shape := ⟨[.one (.v 28 1 false)], []⟩
def sout_slices_Clone_Hop : Shape := ⟨[.one (.own 109 0)], [.row 109 true]⟩
noncomputable def H_slices_Clone_Hop : HMod U := { fa := [[.s 109 4]], fb := [], sin := sin_slices_Clone_Hop, sout := sout_slices_Clone_Hop, one := true, ky := 1395, toX := fun (y : Y_slices_Clone_Hop) => (((), ()), (y.q0, ())), fn := fun x => m_slices_Clone_Hop x.1.1.1, ok := okS rfl }
theorem ok_slices_Clone_Hop : HFnOK Tryz.prog B0 40 H_slices_Clone_Hop := clone_hfn clone_slices_Clone_Hop fun x y hx => by
  simp only [H_slices_Clone_Hop, m_slices_Clone_Hop] at hx
  split at hx
  · rename_i h
    cases hx
    exact ⟨_, rfl, rfl, by simp [H_slices_Clone_Hop, HMod.out, sout_slices_Clone_Hop, Shape.enc, lensB, encA, encSp, encP, encB, toV], by simp [H_slices_Clone_Hop, HMod.out, sout_slices_Clone_Hop, Shape.enc, lensB, encA, encSp, encP, encB, toH, toBox, newBox], by simpa using h.1, by simpa using h.2⟩
  · cases hx

/-! slices.Clone[[]byte,byte] -/
theorem clone_slices_Clone_byte : CloneOK Tryz.prog 41 1 1 5 := clone_ok mix_ok (t := 92) (tb := 4) (e := 5) Tryz.func41 (by kernel_rfl) (by kernel_rfl) (by kernel_rfl) (by kernel_rfl) (by kernel_rfl) (by kernel_rfl) (by kernel_rfl) (by decide)
def m_slices_Clone_byte (a0 : List Int) : Option Y_slices_Clone_byte := if a0.length * 1 ≤ lim ∧ a0.length ≤ maxLen then some ⟨a0⟩ else none
def sin_slices_Clone_byte : Shape := ⟨[.one (.v 92 1 false)], []⟩
def sout_slices_Clone_byte : Shape := ⟨[.one (.own 5 0)], [.row 5 true]⟩
noncomputable def H_slices_Clone_byte : HMod U := { fa := [[.s 5 1]], fb := [], sin := sin_slices_Clone_byte, sout := sout_slices_Clone_byte, one := true, ky := 1396, toX := fun (y : Y_slices_Clone_byte) => (((), ()), (y.q0, ())), fn := fun x => m_slices_Clone_byte x.1.1.1, ok := okS rfl }
theorem ok_slices_Clone_byte : HFnOK Tryz.prog B0 41 H_slices_Clone_byte := clone_hfn clone_slices_Clone_byte fun x y hx => by
  simp only [H_slices_Clone_byte, m_slices_Clone_byte] at hx
  split at hx
  · rename_i h
    cases hx
    exact ⟨_, rfl, rfl, by simp [H_slices_Clone_byte, HMod.out, sout_slices_Clone_byte, Shape.enc, lensB, encA, encSp, encP, encB, toV], by simp [H_slices_Clone_byte, HMod.out, sout_slices_Clone_byte, Shape.enc, lensB, encA, encSp, encP, encB, toH, toBox, newBox], by simpa using h.1, by simpa using h.2⟩
  · cases hx

/-! slices.Clone[[]wireless/api.MeshNote,wireless/api.MeshNote] -/
theorem clone_slices_Clone_MeshNote : CloneOK Tryz.prog 42 13 96 103 := clone_ok mix_ok (t := 29) (tb := 4) (e := 103) Tryz.func42 (by kernel_rfl) (by kernel_rfl) (by kernel_rfl) (by kernel_rfl) (by kernel_rfl) (by kernel_rfl) (by kernel_rfl) (by decide)
def m_slices_Clone_MeshNote (a0 : List api_MeshNote) : Option Y_slices_Clone_MeshNote := if a0.length * 96 ≤ lim ∧ a0.length ≤ maxLen then some ⟨a0⟩ else none
def sin_slices_Clone_MeshNote : Shape := ⟨[.one (.v 29 1 false)], []⟩
def sout_slices_Clone_MeshNote : Shape := ⟨[.one (.own 103 0)], [.row 103 true]⟩
noncomputable def H_slices_Clone_MeshNote : HMod U := { fa := [[.s 103 13]], fb := [], sin := sin_slices_Clone_MeshNote, sout := sout_slices_Clone_MeshNote, one := true, ky := 1397, toX := fun (y : Y_slices_Clone_MeshNote) => (((), ()), (y.q0, ())), fn := fun x => m_slices_Clone_MeshNote x.1.1.1, ok := okS rfl }
theorem ok_slices_Clone_MeshNote : HFnOK Tryz.prog B0 42 H_slices_Clone_MeshNote := clone_hfn clone_slices_Clone_MeshNote fun x y hx => by
  simp only [H_slices_Clone_MeshNote, m_slices_Clone_MeshNote] at hx
  split at hx
  · rename_i h
    cases hx
    exact ⟨_, rfl, rfl, by simp [H_slices_Clone_MeshNote, HMod.out, sout_slices_Clone_MeshNote, Shape.enc, lensB, encA, encSp, encP, encB, toV], by simp [H_slices_Clone_MeshNote, HMod.out, sout_slices_Clone_MeshNote, Shape.enc, lensB, encA, encSp, encP, encB, toH, toBox, newBox], by simpa using h.1, by simpa using h.2⟩
  · cases hx

/-! slices.Clone[[]uint16,uint16] -/
theorem clone_slices_Clone_uint16 : CloneOK Tryz.prog 64 1 2 35 := clone_ok mix_ok (t := 45) (tb := 4) (e := 35) Tryz.func64 (by kernel_rfl) (by kernel_rfl) (by kernel_rfl) (by kernel_rfl) (by kernel_rfl) (by kernel_rfl) (by kernel_rfl) (by decide)
def m_slices_Clone_uint16 (a0 : List Int) : Option Y_slices_Clone_uint16 := if a0.length * 2 ≤ lim ∧ a0.length ≤ maxLen then some ⟨a0⟩ else none
def sin_slices_Clone_uint16 : Shape := ⟨[.one (.v 45 1 false)], []⟩
def sout_slices_Clone_uint16 : Shape := ⟨[.one (.own 35 0)], [.row 35 true]⟩
noncomputable def H_slices_Clone_uint16 : HMod U := { fa := [[.s 35 1]], fb := [], sin := sin_slices_Clone_uint16, sout := sout_slices_Clone_uint16, one := true, ky := 1398, toX := fun (y : Y_slices_Clone_uint16) => (((), ()), (y.q0, ())), fn := fun x => m_slices_Clone_uint16 x.1.1.1, ok := okS rfl }
theorem ok_slices_Clone_uint16 : HFnOK Tryz.prog B0 64 H_slices_Clone_uint16 := clone_hfn clone_slices_Clone_uint16 fun x y hx => by
  simp only [H_slices_Clone_uint16, m_slices_Clone_uint16] at hx
  split at hx
  · rename_i h
    cases hx
    exact ⟨_, rfl, rfl, by simp [H_slices_Clone_uint16, HMod.out, sout_slices_Clone_uint16, Shape.enc, lensB, encA, encSp, encP, encB, toV], by simp [H_slices_Clone_uint16, HMod.out, sout_slices_Clone_uint16, Shape.enc, lensB, encA, encSp, encP, encB, toH, toBox, newBox], by simpa using h.1, by simpa using h.2⟩
  · cases hx

/-! slices.Clone[[]wireless/api.SeqID,wireless/api.SeqID] -/
theorem clone_slices_Clone_SeqID : CloneOK Tryz.prog 65 3 12 82 := clone_ok mix_ok (t := 46) (tb := 4) (e := 82) Tryz.func65 (by kernel_rfl) (by kernel_rfl) (by kernel_rfl) (by kernel_rfl) (by kernel_rfl) (by kernel_rfl) (by kernel_rfl) (by decide)
def m_slices_Clone_SeqID (a0 : List api_SeqID) : Option Y_slices_Clone_SeqID := if a0.length * 12 ≤ lim ∧ a0.length ≤ maxLen then some ⟨a0⟩ else none
def sin_slices_Clone_SeqID : Shape := ⟨[.one (.v 46 1 false)], []⟩
def sout_slices_Clone_SeqID : Shape := ⟨[.one (.own 82 0)], [.row 82 true]⟩
noncomputable def H_slices_Clone_SeqID : HMod U := { fa := [[.s 82 3]], fb := [], sin := sin_slices_Clone_SeqID, sout := sout_slices_Clone_SeqID, one := true, ky := 1399, toX := fun (y : Y_slices_Clone_SeqID) => (((), ()), (y.q0, ())), fn := fun x => m_slices_Clone_SeqID x.1.1.1, ok := okS rfl }
theorem ok_slices_Clone_SeqID : HFnOK Tryz.prog B0 65 H_slices_Clone_SeqID := clone_hfn clone_slices_Clone_SeqID fun x y hx => by
  simp only [H_slices_Clone_SeqID, m_slices_Clone_SeqID] at hx
  split at hx
  · rename_i h
    cases hx
    exact ⟨_, rfl, rfl, by simp [H_slices_Clone_SeqID, HMod.out, sout_slices_Clone_SeqID, Shape.enc, lensB, encA, encSp, encP, encB, toV], by simp [H_slices_Clone_SeqID, HMod.out, sout_slices_Clone_SeqID, Shape.enc, lensB, encA, encSp, encP, encB, toH, toBox, newBox], by simpa using h.1, by simpa using h.2⟩
  · cases hx

/-! slices.Clone[[]wireless/api.Replay,wireless/api.Replay] -/
theorem clone_slices_Clone_Replay : CloneOK Tryz.prog 66 3 12 83 := clone_ok mix_ok (t := 47) (tb := 4) (e := 83) Tryz.func66 (by kernel_rfl) (by kernel_rfl) (by kernel_rfl) (by kernel_rfl) (by kernel_rfl) (by kernel_rfl) (by kernel_rfl) (by decide)
def m_slices_Clone_Replay (a0 : List api_SeqID) : Option Y_slices_Clone_Replay := if a0.length * 12 ≤ lim ∧ a0.length ≤ maxLen then some ⟨a0⟩ else none
def sin_slices_Clone_Replay : Shape := ⟨[.one (.v 47 1 false)], []⟩
def sout_slices_Clone_Replay : Shape := ⟨[.one (.own 83 0)], [.row 83 true]⟩
noncomputable def H_slices_Clone_Replay : HMod U := { fa := [[.s 83 3]], fb := [], sin := sin_slices_Clone_Replay, sout := sout_slices_Clone_Replay, one := true, ky := 1400, toX := fun (y : Y_slices_Clone_Replay) => (((), ()), (y.q0, ())), fn := fun x => m_slices_Clone_Replay x.1.1.1, ok := okS rfl }
theorem ok_slices_Clone_Replay : HFnOK Tryz.prog B0 66 H_slices_Clone_Replay := clone_hfn clone_slices_Clone_Replay fun x y hx => by
  simp only [H_slices_Clone_Replay, m_slices_Clone_Replay] at hx
  split at hx
  · rename_i h
    cases hx
    exact ⟨_, rfl, rfl, by simp [H_slices_Clone_Replay, HMod.out, sout_slices_Clone_Replay, Shape.enc, lensB, encA, encSp, encP, encB, toV], by simp [H_slices_Clone_Replay, HMod.out, sout_slices_Clone_Replay, Shape.enc, lensB, encA, encSp, encP, encB, toH, toBox, newBox], by simpa using h.1, by simpa using h.2⟩
  · cases hx

/-! slices.Clone[[]wireless/api.Outgoing,wireless/api.Outgoing] -/
theorem clone_slices_Clone_Outgoing : CloneOK Tryz.prog 67 10 72 134 := clone_ok mix_ok (t := 48) (tb := 4) (e := 134) Tryz.func67 (by kernel_rfl) (by kernel_rfl) (by kernel_rfl) (by kernel_rfl) (by kernel_rfl) (by kernel_rfl) (by kernel_rfl) (by decide)
def m_slices_Clone_Outgoing (a0 : List api_Outgoing) : Option Y_slices_Clone_Outgoing := if a0.length * 72 ≤ lim ∧ a0.length ≤ maxLen then some ⟨a0⟩ else none
def sin_slices_Clone_Outgoing : Shape := ⟨[.one (.v 48 1 false)], []⟩
def sout_slices_Clone_Outgoing : Shape := ⟨[.one (.own 134 0)], [.row 134 true]⟩
noncomputable def H_slices_Clone_Outgoing : HMod U := { fa := [[.s 134 10]], fb := [], sin := sin_slices_Clone_Outgoing, sout := sout_slices_Clone_Outgoing, one := true, ky := 1401, toX := fun (y : Y_slices_Clone_Outgoing) => (((), ()), (y.q0, ())), fn := fun x => m_slices_Clone_Outgoing x.1.1.1, ok := okS rfl }
theorem ok_slices_Clone_Outgoing : HFnOK Tryz.prog B0 67 H_slices_Clone_Outgoing := clone_hfn clone_slices_Clone_Outgoing fun x y hx => by
  simp only [H_slices_Clone_Outgoing, m_slices_Clone_Outgoing] at hx
  split at hx
  · rename_i h
    cases hx
    exact ⟨_, rfl, rfl, by simp [H_slices_Clone_Outgoing, HMod.out, sout_slices_Clone_Outgoing, Shape.enc, lensB, encA, encSp, encP, encB, toV], by simp [H_slices_Clone_Outgoing, HMod.out, sout_slices_Clone_Outgoing, Shape.enc, lensB, encA, encSp, encP, encB, toH, toBox, newBox], by simpa using h.1, by simpa using h.2⟩
  · cases hx

/-! slices.Clone[[]wireless/api.Incoming,wireless/api.Incoming] -/
theorem clone_slices_Clone_Incoming : CloneOK Tryz.prog 68 11 80 137 := clone_ok mix_ok (t := 49) (tb := 4) (e := 137) Tryz.func68 (by kernel_rfl) (by kernel_rfl) (by kernel_rfl) (by kernel_rfl) (by kernel_rfl) (by kernel_rfl) (by kernel_rfl) (by decide)
def m_slices_Clone_Incoming (a0 : List api_Incoming) : Option Y_slices_Clone_Incoming := if a0.length * 80 ≤ lim ∧ a0.length ≤ maxLen then some ⟨a0⟩ else none
def sin_slices_Clone_Incoming : Shape := ⟨[.one (.v 49 1 false)], []⟩
def sout_slices_Clone_Incoming : Shape := ⟨[.one (.own 137 0)], [.row 137 true]⟩
noncomputable def H_slices_Clone_Incoming : HMod U := { fa := [[.s 137 11]], fb := [], sin := sin_slices_Clone_Incoming, sout := sout_slices_Clone_Incoming, one := true, ky := 1402, toX := fun (y : Y_slices_Clone_Incoming) => (((), ()), (y.q0, ())), fn := fun x => m_slices_Clone_Incoming x.1.1.1, ok := okS rfl }
theorem ok_slices_Clone_Incoming : HFnOK Tryz.prog B0 68 H_slices_Clone_Incoming := clone_hfn clone_slices_Clone_Incoming fun x y hx => by
  simp only [H_slices_Clone_Incoming, m_slices_Clone_Incoming] at hx
  split at hx
  · rename_i h
    cases hx
    exact ⟨_, rfl, rfl, by simp [H_slices_Clone_Incoming, HMod.out, sout_slices_Clone_Incoming, Shape.enc, lensB, encA, encSp, encP, encB, toV], by simp [H_slices_Clone_Incoming, HMod.out, sout_slices_Clone_Incoming, Shape.enc, lensB, encA, encSp, encP, encB, toH, toBox, newBox], by simpa using h.1, by simpa using h.2⟩
  · cases hx

/-! slices.Clone[[]wireless/api.Queued,wireless/api.Queued] -/
theorem clone_slices_Clone_Queued : CloneOK Tryz.prog 70 18 136 143 := clone_ok mix_ok (t := 52) (tb := 4) (e := 143) Tryz.func70 (by kernel_rfl) (by kernel_rfl) (by kernel_rfl) (by kernel_rfl) (by kernel_rfl) (by kernel_rfl) (by kernel_rfl) (by decide)
def m_slices_Clone_Queued (a0 : List api_Queued) : Option Y_slices_Clone_Queued := if a0.length * 136 ≤ lim ∧ a0.length ≤ maxLen then some ⟨a0⟩ else none
def sin_slices_Clone_Queued : Shape := ⟨[.one (.v 52 1 false)], []⟩
def sout_slices_Clone_Queued : Shape := ⟨[.one (.own 143 0)], [.row 143 true]⟩
noncomputable def H_slices_Clone_Queued : HMod U := { fa := [[.s 143 18]], fb := [], sin := sin_slices_Clone_Queued, sout := sout_slices_Clone_Queued, one := true, ky := 1403, toX := fun (y : Y_slices_Clone_Queued) => (((), ()), (y.q0, ())), fn := fun x => m_slices_Clone_Queued x.1.1.1, ok := okS rfl }
theorem ok_slices_Clone_Queued : HFnOK Tryz.prog B0 70 H_slices_Clone_Queued := clone_hfn clone_slices_Clone_Queued fun x y hx => by
  simp only [H_slices_Clone_Queued, m_slices_Clone_Queued] at hx
  split at hx
  · rename_i h
    cases hx
    exact ⟨_, rfl, rfl, by simp [H_slices_Clone_Queued, HMod.out, sout_slices_Clone_Queued, Shape.enc, lensB, encA, encSp, encP, encB, toV], by simp [H_slices_Clone_Queued, HMod.out, sout_slices_Clone_Queued, Shape.enc, lensB, encA, encSp, encP, encB, toH, toBox, newBox], by simpa using h.1, by simpa using h.2⟩
  · cases hx

/-! slices.Clone[[]wireless/api.Timed,wireless/api.Timed] -/
theorem clone_slices_Clone_Timed : CloneOK Tryz.prog 71 3 40 123 := clone_ok mix_ok (t := 57) (tb := 4) (e := 123) Tryz.func71 (by kernel_rfl) (by kernel_rfl) (by kernel_rfl) (by kernel_rfl) (by kernel_rfl) (by kernel_rfl) (by kernel_rfl) (by decide)
def m_slices_Clone_Timed (a0 : List api_Timed) : Option Y_slices_Clone_Timed := if a0.length * 40 ≤ lim ∧ a0.length ≤ maxLen then some ⟨a0⟩ else none
def sin_slices_Clone_Timed : Shape := ⟨[.one (.v 57 1 false)], []⟩
def sout_slices_Clone_Timed : Shape := ⟨[.one (.own 123 0)], [.row 123 true]⟩
noncomputable def H_slices_Clone_Timed : HMod U := { fa := [[.s 123 3]], fb := [], sin := sin_slices_Clone_Timed, sout := sout_slices_Clone_Timed, one := true, ky := 1404, toX := fun (y : Y_slices_Clone_Timed) => (((), ()), (y.q0, ())), fn := fun x => m_slices_Clone_Timed x.1.1.1, ok := okS rfl }
theorem ok_slices_Clone_Timed : HFnOK Tryz.prog B0 71 H_slices_Clone_Timed := clone_hfn clone_slices_Clone_Timed fun x y hx => by
  simp only [H_slices_Clone_Timed, m_slices_Clone_Timed] at hx
  split at hx
  · rename_i h
    cases hx
    exact ⟨_, rfl, rfl, by simp [H_slices_Clone_Timed, HMod.out, sout_slices_Clone_Timed, Shape.enc, lensB, encA, encSp, encP, encB, toV], by simp [H_slices_Clone_Timed, HMod.out, sout_slices_Clone_Timed, Shape.enc, lensB, encA, encSp, encP, encB, toH, toBox, newBox], by simpa using h.1, by simpa using h.2⟩
  · cases hx

/-! slices.Clone[[][]byte,[]byte] -/
theorem clone_slices_Clone_byte_byte : CloneOK Tryz.prog 97 1 24 92 := clone_ok mix_ok (t := 132) (tb := 4) (e := 92) Tryz.func97 (by kernel_rfl) (by kernel_rfl) (by kernel_rfl) (by kernel_rfl) (by kernel_rfl) (by kernel_rfl) (by kernel_rfl) (by decide)
def m_slices_Clone_byte_byte (a0 : List (List Int)) : Option Y_slices_Clone_byte_byte := if a0.length * 24 ≤ lim ∧ a0.length ≤ maxLen then some ⟨a0⟩ else none
def sin_slices_Clone_byte_byte : Shape := ⟨[.one (.v 132 1 false)], []⟩
def sout_slices_Clone_byte_byte : Shape := ⟨[.one (.own 92 0)], [.row 92 true]⟩
noncomputable def H_slices_Clone_byte_byte : HMod U := { fa := [[.s 92 1]], fb := [], sin := sin_slices_Clone_byte_byte, sout := sout_slices_Clone_byte_byte, one := true, ky := 1405, toX := fun (y : Y_slices_Clone_byte_byte) => (((), ()), (y.q0, ())), fn := fun x => m_slices_Clone_byte_byte x.1.1.1, ok := okS rfl }
theorem ok_slices_Clone_byte_byte : HFnOK Tryz.prog B0 97 H_slices_Clone_byte_byte := clone_hfn clone_slices_Clone_byte_byte fun x y hx => by
  simp only [H_slices_Clone_byte_byte, m_slices_Clone_byte_byte] at hx
  split at hx
  · rename_i h
    cases hx
    exact ⟨_, rfl, rfl, by simp [H_slices_Clone_byte_byte, HMod.out, sout_slices_Clone_byte_byte, Shape.enc, lensB, encA, encSp, encP, encB, toV], by simp [H_slices_Clone_byte_byte, HMod.out, sout_slices_Clone_byte_byte, Shape.enc, lensB, encA, encSp, encP, encB, toH, toBox, newBox], by simpa using h.1, by simpa using h.2⟩
  · cases hx

end
end Go.Proofs.YtpikcdlhgiooaaaGreat

/-
  Functions of the program as functions of Lean (printed by a program of mine).
-/
namespace Go.Proofs.YtpikcdlhgiooaaaGreat
open Go Go.Proofs.YtpikcdlhgiooaaaGreat.Le
set_option linter.unusedVariables false
set_option maxRecDepth 100000
noncomputable section
/-! wireless/wirelesslaw54.lives -/
def lowG (a0 a1 : Int) : Option Int := if a1 ≤ 0 then some 0 else if a1 ≥ 64 then some a0 else if 0 ≤ a1 then
  some (bits .and .u64 a0 (IntKind.wrap .u64 ((IntKind.wrap .u64 ((1 : Int) * 2 ^ (min (Int.toNat a1) (IntKind.bits .u64)))) - 1))) else none
def rot64G (a0 a1 : Int) : Option Int := if 0 ≤ (bits .and .u64 (IntKind.wrap .u64 (a1)) (63 : Int)) then (if 0 ≤ (IntKind.wrap .u64 ((64 : Int) - (bits .and .u64 (IntKind.wrap .u64 (a1)) (63 : Int)))) then
  some (bits .or .u64 (IntKind.wrap .u64 (a0 * 2 ^ (min (Int.toNat (bits .and .u64 (IntKind.wrap .u64 (a1)) (63 : Int))) (IntKind.bits .u64)))) (Int.fdiv a0 (2 ^ (min (Int.toNat (IntKind.wrap .u64 ((64 : Int) - (bits .and .u64 (IntKind.wrap .u64 (a1)) (63 : Int))))) (IntKind.bits .u64))))) else none) else none
def rot32G (a0 a1 : Int) : Option Int := if 0 ≤ (bits .and .u64 (IntKind.wrap .u64 (a1)) (31 : Int)) then (if 0 ≤ (IntKind.wrap .u64 ((32 : Int) - (bits .and .u64 (IntKind.wrap .u64 (a1)) (31 : Int)))) then
  some (bits .or .u32 (IntKind.wrap .u32 (a0 * 2 ^ (min (Int.toNat (bits .and .u64 (IntKind.wrap .u64 (a1)) (31 : Int))) (IntKind.bits .u32)))) (Int.fdiv a0 (2 ^ (min (Int.toNat (IntKind.wrap .u64 ((32 : Int) - (bits .and .u64 (IntKind.wrap .u64 (a1)) (31 : Int))))) (IntKind.bits .u32))))) else none) else none
def roundG (a0 a1 a2 : Int) : Option Int := (rot64G a0 (Int.tmod (w64 ((11 : Int) * (Int.tmod a1 64))) (64 : Int))).bind fun x1 => (lowG x1 32).bind fun x2 =>
  (rot32G (IntKind.wrap .u32 (a2 + (IntKind.wrap .u32 (x2)))) (7 : Int)).bind fun x3 => (rot32G (IntKind.wrap .u32 (x2)) (16 : Int)).bind fun x4 =>
  some (bits .xor .u32 (IntKind.wrap .u32 (x3 * 2654435761)) x4)
def loopG (k : Int) : Nat → Int → Int → Int → Option Int
  | 0, i, a, b => if i < 8 then none else some (bits .or .u64 (IntKind.wrap .u64 ((IntKind.wrap .u64 a) * 2 ^ (32 : Nat))) (IntKind.wrap .u64 b))
  | n + 1, i, a, b => if i < 8 then (roundG k i b).bind fun x => loopG k n (w64 (i + 1)) b (bits .xor .u32 a x) else some (bits .or .u64 (IntKind.wrap .u64 ((IntKind.wrap .u64 a) * 2 ^ (32 : Nat))) (IntKind.wrap .u64 b))
def mixG (k s : Int) : Option Int := (lowG s 32).bind fun x1 => loopG k 8 0 (IntKind.wrap .u32 (Int.fdiv s (2 ^ (32 : Nat)))) (IntKind.wrap .u32 x1)

theorem lowG_eq (a b : Int) : m_serial_Low a b = lowG a b := by
  unfold m_serial_Low lowG
  rw [flow_eq]
  simp only [T_serial_Low]
  grind [Tr.den, flowJ]
theorem rot64G_eq (a b : Int) : m_math_bits_RotateLeft64 a b = rot64G a b := by
  unfold m_math_bits_RotateLeft64 rot64G
  rw [flow_eq]
  simp only [T_math_bits_RotateLeft64]
  grind [Tr.den, flowJ]
theorem rot32G_eq (a b : Int) : m_math_bits_RotateLeft32 a b = rot32G a b := by
  unfold m_math_bits_RotateLeft32 rot32G
  rw [flow_eq]
  simp only [T_math_bits_RotateLeft32]
  grind [Tr.den, flowJ]
theorem roundG_eq (a b c : Int) : m_block_Round a b c = roundG a b c := by
  unfold m_block_Round roundG
  rw [flow_eq]
  simp only [T_block_Round, lowG_eq, rot64G_eq, rot32G_eq]
  rfl
theorem joinG_eq (h : block_halves) : m_block_halves_join h = some (bits .or .u64 (IntKind.wrap .u64 ((IntKind.wrap .u64 h.x0) * 2 ^ (32 : Nat))) (IntKind.wrap .u64 h.x1)) := by
  unfold m_block_halves_join
  rw [flow_eq]
  rfl
theorem loopG_of (k : Int) : ∀ (n : Nat) (i a b r : Int), loopG k n i a b = some r → flow T_block_Mix (.b1 k i ⟨a, b⟩) = some r
  | 0, i, a, b, r, h => by
    unfold loopG at h
    split at h
    · cases h
    · rename_i hi
      rw [flow_eq]
      simp only [T_block_Mix, decide_eq_false hi, joinG_eq]
      exact h
  | n + 1, i, a, b, r, h => by
    unfold loopG at h
    split at h
    · rename_i hi
      obtain ⟨x, hx, h⟩ := Option.bind_eq_some_iff.1 h
      rw [flow_eq]
      simp only [T_block_Mix, decide_eq_true hi, roundG_eq, hx]
      exact loopG_of k n _ _ _ _ h
    · rename_i hi
      rw [flow_eq]
      simp only [T_block_Mix, decide_eq_false hi, joinG_eq]
      exact h
theorem splitG_eq (x : Int) : m_block_split x = (lowG x 32).bind fun x1 => some ⟨IntKind.wrap .u32 (Int.fdiv x (2 ^ (32 : Nat))), IntKind.wrap .u32 x1⟩ := by
  unfold m_block_split
  rw [flow_eq]
  simp only [T_block_split, lowG_eq]
  rfl
theorem mixG_of {k s r : Int} (h : mixG k s = some r) : m_block_Mix k s = some r := by
  unfold mixG at h
  obtain ⟨x, hx, h⟩ := Option.bind_eq_some_iff.1 h
  unfold m_block_Mix
  rw [flow_eq]
  simp only [T_block_Mix, splitG_eq, hx]
  exact loopG_of k _ _ _ _ _ h
def mixF (k s : Int) : Option Int := match mixG k s with
  | some r => some r
  | none => m_block_Mix k s
theorem mixF_eq (k s : Int) : mixF k s = m_block_Mix k s := by
  unfold mixF
  split
  · rename_i r h
    exact (mixG_of h).symm
  · rfl
theorem mixF_ok : MixOK Fence.wide mixF := fun k s r hk hs hr => mix_okF ok_block_Mix k s r hk hs (by rw [← mixF_eq]; exact hr)
theorem mixF_tot (k s : Int) : ∃ r, mixF k s = some r := by rw [mixF_eq]; exact t_Mix k s
def mixV : List V → Option V
  | [.lit (.int .u64 k), .lit (.int .u64 s)] => (mixG k s).map fun r => .lit (.int .u64 r)
  | _ => none
theorem mix_given : GivenOK Tryz.prog gl 148 mixV := given_of rfl ok_block_Mix fun xs r h => by
  unfold mixV at h
  split at h
  · rename_i k s
    obtain ⟨q, hq, rfl⟩ := Option.map_eq_some_iff.1 h
    exact ⟨(k, s, ()), q, rfl, mixG_of hq, rfl⟩
  · cases h
def bytesI : List V → Option (List Int)
  | [] => some []
  | .lit (.int .u8 n) :: xs => (bytesI xs).map (n :: ·)
  | _ => none
theorem bytesI_ok : ∀ {xs : List V} {ns : List Int}, bytesI xs = some ns → xs = ns.map fun x => V.lit (.int .u8 x)
  | [], ns, h => by cases h; rfl
  | x :: xs, ns, h => by
    unfold bytesI at h
    split at h
    · rename_i heq; cases heq
    · rename_i n xs' heq
      cases heq
      obtain ⟨ms, h1, rfl⟩ := Option.map_eq_some_iff.1 h
      rw [bytesI_ok h1]
      rfl
    · cases h
def tagG : List V → Option V
  | [.lit (.int .u64 k), .sl false 1 xs] => match bytesI xs with
    | some ns => (tagF mixF k ns).map fun r => .lit (.int .u64 r)
    | none => none
  | _ => none
theorem tag_given : GivenOK Tryz.prog gl 113 tagG := by
  refine ⟨⟨Tryz.f113, Tryz.func113, by kernel_rfl, by kernel_rfl⟩, fun E ys r0 _ h => ?_⟩
  unfold tagG at h
  split at h
  · rename_i k xs
    split at h
    · rename_i ns hns
      obtain ⟨r, ha, rfl⟩ := Option.map_eq_some_iff.1 h
      intro fz w vs hcells hg hr
      obtain ⟨v0, vs, rfl, h1, hr⟩ := hr.cons_left
      obtain ⟨v1, vs, rfl, h2, hr⟩ := hr.cons_left
      cases hr.nil_left
      rw [bytesI_ok hns] at h2
      obtain ⟨a, b, o, cap, rfl, hrow⟩ := row_of (xs := ns) h2
      cases h1 with
      | lit hl _ =>
        have hw : (Lit.int .u64 r).wf = true := tag_wf mixF_ok hl ha
        refine (callsIn_wide.1 (tag_in Fence.wide trivial trivial trivial trivial rfl mixF mixF_ok (fun k s _ => mixF_tot k s) 3 (by omega) k ns r hl ha b o cap a w hrow)).mono ?_
        rintro e w' ⟨rfl, hb⟩
        refine ⟨_, fz, rfl, hb, fun _ _ h => h, fun _ _ h _ => h, fun b c h => ?_, .lit hw .nil, rfl⟩
        obtain ⟨u, hu⟩ := hcells b c h
        exact ⟨u, (hb.cell (p := ⟨b, c, none⟩) (cell_lt hu)).trans hu⟩
    · cases h
  · cases h
def rf81 : List V → Option V := runF (EC Tryz.prog gl [81, 109, 129] (fun _ => false) [] []) 20 81
theorem rk81 : ecCheck Tryz.prog gl [81, 109, 129] (fun _ => false) [] [] = true := by kernel_rfl
theorem rg81 : GivenOK Tryz.prog gl 81 rf81 := given_run mix_ok rk81 (fun p hp => by cases hp) (by rfl) Tryz.func81 (by kernel_rfl) 20
def rf153 : List V → Option V := runF (EC Tryz.prog gl [153] (fun _ => false) [] []) 20 153
theorem rk153 : ecCheck Tryz.prog gl [153] (fun _ => false) [] [] = true := by kernel_rfl
theorem rg153 : GivenOK Tryz.prog gl 153 rf153 := given_run mix_ok rk153 (fun p hp => by cases hp) (by rfl) Tryz.func153 (by kernel_rfl) 20
def ex_law54_lives : FuncId → Option (List V → Option V)
  | 113 => some tagG
  | 148 => some mixV
  | 81 => some rf81
  | 153 => some rf153
  | _ => none
theorem exok_law54_lives : ∀ g F, ex_law54_lives g = some F → GivenOK Tryz.prog gl g F := fun g F h => by
  unfold ex_law54_lives at h
  split at h <;> cases h
  · exact tag_given
  · exact mix_given
  · exact rg81
  · exact rg153
def fs10 : List FuncId := [6, 7, 8, 10, 11, 14, 15, 16, 17, 18, 19, 25, 26, 27, 28, 29, 30, 31, 32, 35, 37, 43, 44, 45, 46, 47, 48, 49, 50, 51, 52, 53, 54, 56, 57, 58, 59, 60, 61, 62, 63, 69, 72, 73, 74, 75, 76, 77, 78, 79, 80, 82, 83, 84, 85, 86, 87, 88, 89, 90, 91, 92, 93, 94, 95, 96, 98, 99, 100, 101, 102, 103, 104, 105, 106, 107, 108, 109, 110, 111, 112, 114, 115, 117, 118, 119, 120, 121, 122, 123, 124, 125, 126, 127, 128, 129, 130, 131, 132, 133, 134, 135, 136, 137, 138, 139, 140, 141, 142, 143, 144, 145, 146, 147, 149, 150, 151, 152, 154, 155, 156, 157, 158, 159, 160, 161, 162, 163, 164, 165, 166, 167, 168, 169, 170, 171, 172, 173, 174, 175, 176, 177, 178, 179, 180, 181, 182, 183, 184, 185, 186, 187, 188, 189, 190, 191, 192, 193, 194, 195, 196, 197, 198, 199, 200, 201, 202, 203, 204, 205, 206, 207, 208, 209, 210, 211, 212, 213, 214, 215, 216, 217, 218, 220, 221, 222, 223, 224, 225, 226, 227, 228, 229, 230, 231, 232, 233, 234, 235, 236, 237, 238, 239, 240, 241, 242, 243, 244, 245, 246, 247, 248, 249, 250, 251, 252, 253, 254, 255, 256, 257, 259, 260, 261, 262]
def pu10 : FuncId → Bool := fun g => !([15, 16, 17, 18, 19, 29, 30, 43, 44, 45, 46, 47, 49, 50, 52, 54, 57, 59, 62, 72, 73, 80, 81, 87, 88, 90, 91, 94, 98, 99, 100, 105, 107, 108, 115, 118, 122, 125, 131, 132, 136, 137, 138, 149, 153, 184, 187, 189, 204, 205, 212, 223, 224, 225, 245, 255, 256, 257, 36, 38, 39, 40, 41, 42, 64, 65, 66, 67, 68, 70, 71, 97].contains g)
def hl10 : List (Nat × Nat × Nat × Nat) := [(36, 46, 480, 59), (38, 2, 16, 90), (39, 2, 16, 117), (40, 4, 48, 109), (41, 1, 1, 5), (42, 13, 96, 103), (64, 1, 2, 35), (65, 3, 12, 82), (66, 3, 12, 83), (67, 10, 72, 134), (68, 11, 80, 137), (70, 18, 136, 143), (71, 3, 40, 123), (97, 1, 24, 92)]
theorem hlok10 : ∀ p ∈ hl10, CloneOK Tryz.prog p.1 p.2.1 p.2.2.1 p.2.2.2 := by
  intro p hp
  simp only [hl10, List.mem_cons, List.not_mem_nil, or_false] at hp
  rcases hp with rfl | rfl | rfl | rfl | rfl | rfl | rfl | rfl | rfl | rfl | rfl | rfl | rfl | rfl <;> first | exact clone_slices_Clone_Node | exact clone_slices_Clone_Pair | exact clone_slices_Clone_Loss | exact clone_slices_Clone_Hop | exact clone_slices_Clone_byte | exact clone_slices_Clone_MeshNote | exact clone_slices_Clone_uint16 | exact clone_slices_Clone_SeqID | exact clone_slices_Clone_Replay | exact clone_slices_Clone_Outgoing | exact clone_slices_Clone_Incoming | exact clone_slices_Clone_Queued | exact clone_slices_Clone_Timed | exact clone_slices_Clone_byte_byte
theorem nilok10 : ∀ p ∈ ([] : List (Nat × Nat × Nat × Nat)), CloneOK Tryz.prog p.1 p.2.1 p.2.2.1 p.2.2.2 := fun p hp => by cases hp
abbrev vi (k : IntKind) (n : Int) : V := .lit (.int k n)
abbrev vt : V := .lit (.bool true)
abbrev vf : V := .lit (.bool false)
theorem ckT0 : exCheck Tryz.prog gl fs10 pu10 [(58, 4)] [] ex_law54_lives hl10 = true := by kernel_rfl
theorem trT58_0 : runF (EX Tryz.prog gl fs10 pu10 [(58, 4)] [] ex_law54_lives hl10) 300 58 [.agg [vi .u16 50, vi .u64 1, vi .u64 2, vi .i64 0, vi .u64 3, vi .i64 60, vi .u64 15117967196265648854, vi .u64 3048390888902185609, vi .u64 2089129140018500110, vi .u64 0, vi .i64 0, vi .u64 0, vi .u64 0, vi .u64 0, vi .u32 0, vf, vi .i64 0, vi .u32 0, vf, vf, .sl false 1 [], .sl false 3 [], .sl false 3 [], .sl false 10 [], .sl false 11 [], vi .u16 0, .sl false 18 [], .sl false 1 [], vi .i64 0, vf, vi .i64 0, vi .i64 0, vi .i64 0, vi .i64 0, vi .u16 0, vi .i64 0, vi .i64 0, vi .i64 0, vi .i64 0, .sl false 1 [], vi .i64 0, vf, vi .i64 0, .sl false 3 [], vi .u32 0, vt], .agg [vi .i64 0, vi .i64 0, vi .i64 1, vi .u16 51, vi .i64 1, vt, .sl false 1 [vi .u8 7], vi .u64 0, vi .i64 0, vi .i64 0], vi .i64 0] = some (.tup [.agg [vi .u16 50, vi .u64 1, vi .u64 2, vi .i64 0, vi .u64 3, vi .i64 60, vi .u64 15117967196265648854, vi .u64 3048390888902185609, vi .u64 2089129140018500110, vi .u64 0, vi .i64 0, vi .u64 0, vi .u64 0, vi .u64 0, vi .u32 0, vf, vi .i64 0, vi .u32 1, vf, vf, .sl false 1 [], .sl false 3 [], .sl false 3 [], .sl false 10 [], .sl false 11 [], vi .u16 0, .sl false 18 [], .sl false 1 [], vi .i64 0, vf, vi .i64 0, vi .i64 0, vi .i64 0, vi .i64 0, vi .u16 0, vi .i64 0, vi .i64 0, vi .i64 0, vi .i64 0, .sl false 1 [], vi .i64 0, vf, vi .i64 0, .sl false 3 [.agg [vi .i64 0, .sl false 1 [vi .u8 60, vi .u8 187, vi .u8 148, vi .u8 245, vi .u8 184, vi .u8 216, vi .u8 75, vi .u8 241, vi .u8 69, vi .u8 100, vi .u8 35, vi .u8 111, vi .u8 154, vi .u8 210, vi .u8 174, vi .u8 131, vi .u8 185, vi .u8 118, vi .u8 3], vi .u16 0]], vi .u32 100, vt], .sl true 0 [], vi .i64 0]) := by kernel_rfl
def tbT58 : List (List V × V) := [([.agg [vi .u16 50, vi .u64 1, vi .u64 2, vi .i64 0, vi .u64 3, vi .i64 60, vi .u64 15117967196265648854, vi .u64 3048390888902185609, vi .u64 2089129140018500110, vi .u64 0, vi .i64 0, vi .u64 0, vi .u64 0, vi .u64 0, vi .u32 0, vf, vi .i64 0, vi .u32 0, vf, vf, .sl false 1 [], .sl false 3 [], .sl false 3 [], .sl false 10 [], .sl false 11 [], vi .u16 0, .sl false 18 [], .sl false 1 [], vi .i64 0, vf, vi .i64 0, vi .i64 0, vi .i64 0, vi .i64 0, vi .u16 0, vi .i64 0, vi .i64 0, vi .i64 0, vi .i64 0, .sl false 1 [], vi .i64 0, vf, vi .i64 0, .sl false 3 [], vi .u32 0, vt], .agg [vi .i64 0, vi .i64 0, vi .i64 1, vi .u16 51, vi .i64 1, vt, .sl false 1 [vi .u8 7], vi .u64 0, vi .i64 0, vi .i64 0], vi .i64 0], .tup [.agg [vi .u16 50, vi .u64 1, vi .u64 2, vi .i64 0, vi .u64 3, vi .i64 60, vi .u64 15117967196265648854, vi .u64 3048390888902185609, vi .u64 2089129140018500110, vi .u64 0, vi .i64 0, vi .u64 0, vi .u64 0, vi .u64 0, vi .u32 0, vf, vi .i64 0, vi .u32 1, vf, vf, .sl false 1 [], .sl false 3 [], .sl false 3 [], .sl false 10 [], .sl false 11 [], vi .u16 0, .sl false 18 [], .sl false 1 [], vi .i64 0, vf, vi .i64 0, vi .i64 0, vi .i64 0, vi .i64 0, vi .u16 0, vi .i64 0, vi .i64 0, vi .i64 0, vi .i64 0, .sl false 1 [], vi .i64 0, vf, vi .i64 0, .sl false 3 [.agg [vi .i64 0, .sl false 1 [vi .u8 60, vi .u8 187, vi .u8 148, vi .u8 245, vi .u8 184, vi .u8 216, vi .u8 75, vi .u8 241, vi .u8 69, vi .u8 100, vi .u8 35, vi .u8 111, vi .u8 154, vi .u8 210, vi .u8 174, vi .u8 131, vi .u8 185, vi .u8 118, vi .u8 3], vi .u16 0]], vi .u32 100, vt], .sl true 0 [], vi .i64 0])]
theorem gvT58 : GivenOK Tryz.prog gl 58 (tabF tbT58) := given_tab (given_runX mix_ok ckT0 exok_law54_lives hlok10 nilok10 (by rfl) Tryz.func58 (by kernel_rfl) 300) (tab_cons trT58_0 tab_nil)
theorem trT8_0 : runF (EX Tryz.prog gl fs10 pu10 [(58, 4)] [] ex_law54_lives hl10) 300 8 [.agg [vi .u16 50, vi .u64 1, vi .u64 2, vi .i64 0, vi .u64 3, vi .i64 60, vi .u64 15117967196265648854, vi .u64 3048390888902185609, vi .u64 2089129140018500110, vi .u64 0, vi .i64 0, vi .u64 0, vi .u64 0, vi .u64 0, vi .u32 0, vf, vi .i64 0, vi .u32 1, vf, vf, .sl false 1 [], .sl false 3 [], .sl false 3 [], .sl false 10 [], .sl false 11 [], vi .u16 0, .sl false 18 [], .sl false 1 [], vi .i64 0, vf, vi .i64 0, vi .i64 0, vi .i64 0, vi .i64 0, vi .u16 0, vi .i64 0, vi .i64 0, vi .i64 0, vi .i64 0, .sl false 1 [], vi .i64 0, vf, vi .i64 0, .sl false 3 [.agg [vi .i64 0, .sl false 1 [vi .u8 60, vi .u8 187, vi .u8 148, vi .u8 245, vi .u8 184, vi .u8 216, vi .u8 75, vi .u8 241, vi .u8 69, vi .u8 100, vi .u8 35, vi .u8 111, vi .u8 154, vi .u8 210, vi .u8 174, vi .u8 131, vi .u8 185, vi .u8 118, vi .u8 3], vi .u16 0]], vi .u32 100, vt], vi .i64 1] = some (.tup [.agg [vi .u16 50, vi .u64 1, vi .u64 2, vi .i64 0, vi .u64 3, vi .i64 60, vi .u64 15117967196265648854, vi .u64 3048390888902185609, vi .u64 2089129140018500110, vi .u64 0, vi .i64 0, vi .u64 0, vi .u64 0, vi .u64 0, vi .u32 0, vf, vi .i64 0, vi .u32 1, vf, vf, .sl false 1 [], .sl false 3 [], .sl false 3 [], .sl false 10 [], .sl false 11 [], vi .u16 0, .sl false 18 [], .sl false 1 [], vi .i64 0, vf, vi .i64 0, vi .i64 0, vi .i64 0, vi .i64 0, vi .u16 0, vi .i64 0, vi .i64 0, vi .i64 0, vi .i64 0, .sl false 1 [], vi .i64 0, vf, vi .i64 0, .sl false 3 [], vi .u32 100, vt], .sl false 3 [.agg [vi .i64 0, .sl false 1 [vi .u8 60, vi .u8 187, vi .u8 148, vi .u8 245, vi .u8 184, vi .u8 216, vi .u8 75, vi .u8 241, vi .u8 69, vi .u8 100, vi .u8 35, vi .u8 111, vi .u8 154, vi .u8 210, vi .u8 174, vi .u8 131, vi .u8 185, vi .u8 118, vi .u8 3], vi .u16 0]], .sl true 0 []]) := by kernel_rfl
theorem trT8_1 : runF (EX Tryz.prog gl fs10 pu10 [(58, 4)] [] ex_law54_lives hl10) 300 8 [.agg [vi .u16 51, vi .u64 1, vi .u64 2, vi .i64 0, vi .u64 3, vi .i64 60, vi .u64 15117967196265648854, vi .u64 3048390888902185609, vi .u64 2089129140018500110, vi .u64 0, vi .i64 0, vi .u64 0, vi .u64 0, vi .u64 0, vi .u32 0, vf, vi .i64 0, vi .u32 0, vf, vf, .sl false 1 [], .sl false 3 [], .sl false 3 [], .sl false 10 [], .sl false 11 [], vi .u16 0, .sl false 18 [], .sl false 1 [], vi .i64 0, vf, vi .i64 0, vi .i64 0, vi .i64 0, vi .i64 0, vi .u16 0, vi .i64 0, vi .i64 0, vi .i64 0, vi .i64 0, .sl false 1 [], vi .i64 0, vf, vi .i64 0, .sl false 3 [], vi .u32 0, vt], vi .i64 1] = some (.tup [.agg [vi .u16 51, vi .u64 1, vi .u64 2, vi .i64 0, vi .u64 3, vi .i64 60, vi .u64 15117967196265648854, vi .u64 3048390888902185609, vi .u64 2089129140018500110, vi .u64 0, vi .i64 0, vi .u64 0, vi .u64 0, vi .u64 0, vi .u32 0, vf, vi .i64 0, vi .u32 0, vf, vf, .sl false 1 [], .sl false 3 [], .sl false 3 [], .sl false 10 [], .sl false 11 [], vi .u16 0, .sl false 18 [], .sl false 1 [], vi .i64 0, vf, vi .i64 0, vi .i64 0, vi .i64 0, vi .i64 0, vi .u16 0, vi .i64 0, vi .i64 0, vi .i64 0, vi .i64 0, .sl false 1 [], vi .i64 0, vf, vi .i64 0, .sl false 3 [], vi .u32 0, vt], .sl false 3 [], .sl true 0 []]) := by kernel_rfl
theorem trT8_2 : runF (EX Tryz.prog gl fs10 pu10 [(58, 4)] [] ex_law54_lives hl10) 300 8 [.agg [vi .u16 50, vi .u64 1, vi .u64 2, vi .i64 0, vi .u64 3, vi .i64 60, vi .u64 15117967196265648854, vi .u64 3048390888902185609, vi .u64 2089129140018500110, vi .u64 0, vi .i64 0, vi .u64 0, vi .u64 0, vi .u64 0, vi .u32 0, vf, vi .i64 0, vi .u32 1, vf, vf, .sl false 1 [], .sl false 3 [], .sl false 3 [], .sl false 10 [], .sl false 11 [], vi .u16 0, .sl false 18 [], .sl false 1 [], vi .i64 0, vf, vi .i64 0, vi .i64 0, vi .i64 0, vi .i64 0, vi .u16 0, vi .i64 0, vi .i64 0, vi .i64 0, vi .i64 0, .sl false 1 [], vi .i64 0, vf, vi .i64 0, .sl false 3 [], vi .u32 100, vt], vi .i64 2] = some (.tup [.agg [vi .u16 50, vi .u64 1, vi .u64 2, vi .i64 0, vi .u64 3, vi .i64 60, vi .u64 15117967196265648854, vi .u64 3048390888902185609, vi .u64 2089129140018500110, vi .u64 0, vi .i64 0, vi .u64 0, vi .u64 0, vi .u64 0, vi .u32 0, vf, vi .i64 0, vi .u32 1, vf, vf, .sl false 1 [], .sl false 3 [], .sl false 3 [], .sl false 10 [], .sl false 11 [], vi .u16 0, .sl false 18 [], .sl false 1 [], vi .i64 0, vf, vi .i64 0, vi .i64 0, vi .i64 0, vi .i64 0, vi .u16 0, vi .i64 0, vi .i64 0, vi .i64 0, vi .i64 0, .sl false 1 [], vi .i64 0, vf, vi .i64 0, .sl false 3 [], vi .u32 100, vt], .sl false 3 [], .sl true 0 []]) := by kernel_rfl
theorem trT8_3 : runF (EX Tryz.prog gl fs10 pu10 [(58, 4)] [] ex_law54_lives hl10) 300 8 [.agg [vi .u16 51, vi .u64 1, vi .u64 2, vi .i64 0, vi .u64 3, vi .i64 60, vi .u64 15117967196265648854, vi .u64 3048390888902185609, vi .u64 2089129140018500110, vi .u64 0, vi .i64 0, vi .u64 0, vi .u64 0, vi .u64 0, vi .u32 0, vf, vi .i64 0, vi .u32 0, vf, vf, .sl false 1 [], .sl false 3 [.agg [vi .u16 50, vi .u32 0, vi .u32 0]], .sl false 3 [.agg [vi .u16 50, vi .u32 0, vi .u32 0]], .sl false 10 [], .sl false 11 [], vi .u16 0, .sl false 18 [], .sl false 1 [], vi .i64 0, vf, vi .i64 0, vi .i64 0, vi .i64 0, vi .i64 0, vi .u16 0, vi .i64 0, vi .i64 0, vi .i64 0, vi .i64 0, .sl false 1 [], vi .i64 0, vf, vi .i64 0, .sl false 3 [], vi .u32 0, vt], vi .i64 2] = some (.tup [.agg [vi .u16 51, vi .u64 1, vi .u64 2, vi .i64 0, vi .u64 3, vi .i64 60, vi .u64 15117967196265648854, vi .u64 3048390888902185609, vi .u64 2089129140018500110, vi .u64 0, vi .i64 0, vi .u64 0, vi .u64 0, vi .u64 0, vi .u32 0, vf, vi .i64 0, vi .u32 0, vf, vf, .sl false 1 [], .sl false 3 [.agg [vi .u16 50, vi .u32 0, vi .u32 0]], .sl false 3 [.agg [vi .u16 50, vi .u32 0, vi .u32 0]], .sl false 10 [], .sl false 11 [], vi .u16 0, .sl false 18 [], .sl false 1 [], vi .i64 0, vf, vi .i64 0, vi .i64 0, vi .i64 0, vi .i64 0, vi .u16 0, vi .i64 0, vi .i64 0, vi .i64 0, vi .i64 0, .sl false 1 [], vi .i64 0, vf, vi .i64 0, .sl false 3 [], vi .u32 0, vt], .sl false 3 [], .sl true 0 []]) := by kernel_rfl
def tbT8 : List (List V × V) := [([.agg [vi .u16 50, vi .u64 1, vi .u64 2, vi .i64 0, vi .u64 3, vi .i64 60, vi .u64 15117967196265648854, vi .u64 3048390888902185609, vi .u64 2089129140018500110, vi .u64 0, vi .i64 0, vi .u64 0, vi .u64 0, vi .u64 0, vi .u32 0, vf, vi .i64 0, vi .u32 1, vf, vf, .sl false 1 [], .sl false 3 [], .sl false 3 [], .sl false 10 [], .sl false 11 [], vi .u16 0, .sl false 18 [], .sl false 1 [], vi .i64 0, vf, vi .i64 0, vi .i64 0, vi .i64 0, vi .i64 0, vi .u16 0, vi .i64 0, vi .i64 0, vi .i64 0, vi .i64 0, .sl false 1 [], vi .i64 0, vf, vi .i64 0, .sl false 3 [.agg [vi .i64 0, .sl false 1 [vi .u8 60, vi .u8 187, vi .u8 148, vi .u8 245, vi .u8 184, vi .u8 216, vi .u8 75, vi .u8 241, vi .u8 69, vi .u8 100, vi .u8 35, vi .u8 111, vi .u8 154, vi .u8 210, vi .u8 174, vi .u8 131, vi .u8 185, vi .u8 118, vi .u8 3], vi .u16 0]], vi .u32 100, vt], vi .i64 1], .tup [.agg [vi .u16 50, vi .u64 1, vi .u64 2, vi .i64 0, vi .u64 3, vi .i64 60, vi .u64 15117967196265648854, vi .u64 3048390888902185609, vi .u64 2089129140018500110, vi .u64 0, vi .i64 0, vi .u64 0, vi .u64 0, vi .u64 0, vi .u32 0, vf, vi .i64 0, vi .u32 1, vf, vf, .sl false 1 [], .sl false 3 [], .sl false 3 [], .sl false 10 [], .sl false 11 [], vi .u16 0, .sl false 18 [], .sl false 1 [], vi .i64 0, vf, vi .i64 0, vi .i64 0, vi .i64 0, vi .i64 0, vi .u16 0, vi .i64 0, vi .i64 0, vi .i64 0, vi .i64 0, .sl false 1 [], vi .i64 0, vf, vi .i64 0, .sl false 3 [], vi .u32 100, vt], .sl false 3 [.agg [vi .i64 0, .sl false 1 [vi .u8 60, vi .u8 187, vi .u8 148, vi .u8 245, vi .u8 184, vi .u8 216, vi .u8 75, vi .u8 241, vi .u8 69, vi .u8 100, vi .u8 35, vi .u8 111, vi .u8 154, vi .u8 210, vi .u8 174, vi .u8 131, vi .u8 185, vi .u8 118, vi .u8 3], vi .u16 0]], .sl true 0 []]),
  ([.agg [vi .u16 51, vi .u64 1, vi .u64 2, vi .i64 0, vi .u64 3, vi .i64 60, vi .u64 15117967196265648854, vi .u64 3048390888902185609, vi .u64 2089129140018500110, vi .u64 0, vi .i64 0, vi .u64 0, vi .u64 0, vi .u64 0, vi .u32 0, vf, vi .i64 0, vi .u32 0, vf, vf, .sl false 1 [], .sl false 3 [], .sl false 3 [], .sl false 10 [], .sl false 11 [], vi .u16 0, .sl false 18 [], .sl false 1 [], vi .i64 0, vf, vi .i64 0, vi .i64 0, vi .i64 0, vi .i64 0, vi .u16 0, vi .i64 0, vi .i64 0, vi .i64 0, vi .i64 0, .sl false 1 [], vi .i64 0, vf, vi .i64 0, .sl false 3 [], vi .u32 0, vt], vi .i64 1], .tup [.agg [vi .u16 51, vi .u64 1, vi .u64 2, vi .i64 0, vi .u64 3, vi .i64 60, vi .u64 15117967196265648854, vi .u64 3048390888902185609, vi .u64 2089129140018500110, vi .u64 0, vi .i64 0, vi .u64 0, vi .u64 0, vi .u64 0, vi .u32 0, vf, vi .i64 0, vi .u32 0, vf, vf, .sl false 1 [], .sl false 3 [], .sl false 3 [], .sl false 10 [], .sl false 11 [], vi .u16 0, .sl false 18 [], .sl false 1 [], vi .i64 0, vf, vi .i64 0, vi .i64 0, vi .i64 0, vi .i64 0, vi .u16 0, vi .i64 0, vi .i64 0, vi .i64 0, vi .i64 0, .sl false 1 [], vi .i64 0, vf, vi .i64 0, .sl false 3 [], vi .u32 0, vt], .sl false 3 [], .sl true 0 []]),
  ([.agg [vi .u16 50, vi .u64 1, vi .u64 2, vi .i64 0, vi .u64 3, vi .i64 60, vi .u64 15117967196265648854, vi .u64 3048390888902185609, vi .u64 2089129140018500110, vi .u64 0, vi .i64 0, vi .u64 0, vi .u64 0, vi .u64 0, vi .u32 0, vf, vi .i64 0, vi .u32 1, vf, vf, .sl false 1 [], .sl false 3 [], .sl false 3 [], .sl false 10 [], .sl false 11 [], vi .u16 0, .sl false 18 [], .sl false 1 [], vi .i64 0, vf, vi .i64 0, vi .i64 0, vi .i64 0, vi .i64 0, vi .u16 0, vi .i64 0, vi .i64 0, vi .i64 0, vi .i64 0, .sl false 1 [], vi .i64 0, vf, vi .i64 0, .sl false 3 [], vi .u32 100, vt], vi .i64 2], .tup [.agg [vi .u16 50, vi .u64 1, vi .u64 2, vi .i64 0, vi .u64 3, vi .i64 60, vi .u64 15117967196265648854, vi .u64 3048390888902185609, vi .u64 2089129140018500110, vi .u64 0, vi .i64 0, vi .u64 0, vi .u64 0, vi .u64 0, vi .u32 0, vf, vi .i64 0, vi .u32 1, vf, vf, .sl false 1 [], .sl false 3 [], .sl false 3 [], .sl false 10 [], .sl false 11 [], vi .u16 0, .sl false 18 [], .sl false 1 [], vi .i64 0, vf, vi .i64 0, vi .i64 0, vi .i64 0, vi .i64 0, vi .u16 0, vi .i64 0, vi .i64 0, vi .i64 0, vi .i64 0, .sl false 1 [], vi .i64 0, vf, vi .i64 0, .sl false 3 [], vi .u32 100, vt], .sl false 3 [], .sl true 0 []]),
  ([.agg [vi .u16 51, vi .u64 1, vi .u64 2, vi .i64 0, vi .u64 3, vi .i64 60, vi .u64 15117967196265648854, vi .u64 3048390888902185609, vi .u64 2089129140018500110, vi .u64 0, vi .i64 0, vi .u64 0, vi .u64 0, vi .u64 0, vi .u32 0, vf, vi .i64 0, vi .u32 0, vf, vf, .sl false 1 [], .sl false 3 [.agg [vi .u16 50, vi .u32 0, vi .u32 0]], .sl false 3 [.agg [vi .u16 50, vi .u32 0, vi .u32 0]], .sl false 10 [], .sl false 11 [], vi .u16 0, .sl false 18 [], .sl false 1 [], vi .i64 0, vf, vi .i64 0, vi .i64 0, vi .i64 0, vi .i64 0, vi .u16 0, vi .i64 0, vi .i64 0, vi .i64 0, vi .i64 0, .sl false 1 [], vi .i64 0, vf, vi .i64 0, .sl false 3 [], vi .u32 0, vt], vi .i64 2], .tup [.agg [vi .u16 51, vi .u64 1, vi .u64 2, vi .i64 0, vi .u64 3, vi .i64 60, vi .u64 15117967196265648854, vi .u64 3048390888902185609, vi .u64 2089129140018500110, vi .u64 0, vi .i64 0, vi .u64 0, vi .u64 0, vi .u64 0, vi .u32 0, vf, vi .i64 0, vi .u32 0, vf, vf, .sl false 1 [], .sl false 3 [.agg [vi .u16 50, vi .u32 0, vi .u32 0]], .sl false 3 [.agg [vi .u16 50, vi .u32 0, vi .u32 0]], .sl false 10 [], .sl false 11 [], vi .u16 0, .sl false 18 [], .sl false 1 [], vi .i64 0, vf, vi .i64 0, vi .i64 0, vi .i64 0, vi .i64 0, vi .u16 0, vi .i64 0, vi .i64 0, vi .i64 0, vi .i64 0, .sl false 1 [], vi .i64 0, vf, vi .i64 0, .sl false 3 [], vi .u32 0, vt], .sl false 3 [], .sl true 0 []])]
theorem gvT8 : GivenOK Tryz.prog gl 8 (tabF tbT8) := given_tab (given_runX mix_ok ckT0 exok_law54_lives hlok10 nilok10 (by rfl) Tryz.func8 (by kernel_rfl) 300) (tab_cons trT8_0 (tab_cons trT8_1 (tab_cons trT8_2 (tab_cons trT8_3 tab_nil))))
theorem trT74_0 : runF (EX Tryz.prog gl fs10 pu10 [(58, 4)] [] ex_law54_lives hl10) 300 74 [.agg [vi .u16 51, vi .u64 1, vi .u64 2, vi .i64 0, vi .u64 3, vi .i64 60, vi .u64 15117967196265648854, vi .u64 3048390888902185609, vi .u64 2089129140018500110, vi .u64 0, vi .i64 0, vi .u64 0, vi .u64 0, vi .u64 0, vi .u32 0, vf, vi .i64 0, vi .u32 0, vf, vf, .sl false 1 [], .sl false 3 [], .sl false 3 [], .sl false 10 [], .sl false 11 [], vi .u16 0, .sl false 18 [], .sl false 1 [], vi .i64 0, vf, vi .i64 0, vi .i64 0, vi .i64 0, vi .i64 0, vi .u16 0, vi .i64 0, vi .i64 0, vi .i64 0, vi .i64 0, .sl false 1 [], vi .i64 0, vf, vi .i64 0, .sl false 3 [], vi .u32 0, vt], .sl false 1 [vi .u8 60, vi .u8 187, vi .u8 148, vi .u8 245, vi .u8 184, vi .u8 216, vi .u8 75, vi .u8 241, vi .u8 69, vi .u8 100, vi .u8 35, vi .u8 111, vi .u8 154, vi .u8 210, vi .u8 174, vi .u8 131, vi .u8 185, vi .u8 118, vi .u8 3], vi .i64 2] = some (.tup [.agg [vi .u16 51, vi .u64 1, vi .u64 2, vi .i64 0, vi .u64 3, vi .i64 60, vi .u64 15117967196265648854, vi .u64 3048390888902185609, vi .u64 2089129140018500110, vi .u64 0, vi .i64 0, vi .u64 0, vi .u64 0, vi .u64 0, vi .u32 0, vf, vi .i64 0, vi .u32 0, vf, vf, .sl false 1 [], .sl false 3 [.agg [vi .u16 50, vi .u32 0, vi .u32 0]], .sl false 3 [.agg [vi .u16 50, vi .u32 0, vi .u32 0]], .sl false 10 [], .sl false 11 [], vi .u16 0, .sl false 18 [], .sl false 1 [], vi .i64 0, vf, vi .i64 0, vi .i64 0, vi .i64 0, vi .i64 0, vi .u16 0, vi .i64 0, vi .i64 0, vi .i64 0, vi .i64 0, .sl false 1 [], vi .i64 0, vf, vi .i64 0, .sl false 3 [], vi .u32 0, vt], .sl false 11 [.agg [vi .i64 1, vi .u16 50, vi .u16 51, vt, vi .i64 1, vi .u16 50, vi .u32 0, vi .u32 0, .sl false 1 [vi .u8 7], vi .u16 0, vi .u64 0]]]) := by kernel_rfl
def tbT74 : List (List V × V) := [([.agg [vi .u16 51, vi .u64 1, vi .u64 2, vi .i64 0, vi .u64 3, vi .i64 60, vi .u64 15117967196265648854, vi .u64 3048390888902185609, vi .u64 2089129140018500110, vi .u64 0, vi .i64 0, vi .u64 0, vi .u64 0, vi .u64 0, vi .u32 0, vf, vi .i64 0, vi .u32 0, vf, vf, .sl false 1 [], .sl false 3 [], .sl false 3 [], .sl false 10 [], .sl false 11 [], vi .u16 0, .sl false 18 [], .sl false 1 [], vi .i64 0, vf, vi .i64 0, vi .i64 0, vi .i64 0, vi .i64 0, vi .u16 0, vi .i64 0, vi .i64 0, vi .i64 0, vi .i64 0, .sl false 1 [], vi .i64 0, vf, vi .i64 0, .sl false 3 [], vi .u32 0, vt], .sl false 1 [vi .u8 60, vi .u8 187, vi .u8 148, vi .u8 245, vi .u8 184, vi .u8 216, vi .u8 75, vi .u8 241, vi .u8 69, vi .u8 100, vi .u8 35, vi .u8 111, vi .u8 154, vi .u8 210, vi .u8 174, vi .u8 131, vi .u8 185, vi .u8 118, vi .u8 3], vi .i64 2], .tup [.agg [vi .u16 51, vi .u64 1, vi .u64 2, vi .i64 0, vi .u64 3, vi .i64 60, vi .u64 15117967196265648854, vi .u64 3048390888902185609, vi .u64 2089129140018500110, vi .u64 0, vi .i64 0, vi .u64 0, vi .u64 0, vi .u64 0, vi .u32 0, vf, vi .i64 0, vi .u32 0, vf, vf, .sl false 1 [], .sl false 3 [.agg [vi .u16 50, vi .u32 0, vi .u32 0]], .sl false 3 [.agg [vi .u16 50, vi .u32 0, vi .u32 0]], .sl false 10 [], .sl false 11 [], vi .u16 0, .sl false 18 [], .sl false 1 [], vi .i64 0, vf, vi .i64 0, vi .i64 0, vi .i64 0, vi .i64 0, vi .u16 0, vi .i64 0, vi .i64 0, vi .i64 0, vi .i64 0, .sl false 1 [], vi .i64 0, vf, vi .i64 0, .sl false 3 [], vi .u32 0, vt], .sl false 11 [.agg [vi .i64 1, vi .u16 50, vi .u16 51, vt, vi .i64 1, vi .u16 50, vi .u32 0, vi .u32 0, .sl false 1 [vi .u8 7], vi .u16 0, vi .u64 0]]])]
theorem gvT74 : GivenOK Tryz.prog gl 74 (tabF tbT74) := given_tab (given_runX mix_ok ckT0 exok_law54_lives hlok10 nilok10 (by rfl) Tryz.func74 (by kernel_rfl) 300) (tab_cons trT74_0 tab_nil)
theorem trT6_0 : runF (EX Tryz.prog gl fs10 pu10 [(58, 4)] [] ex_law54_lives hl10) 300 6 [.agg [.sl false 1 [vf, vf], .sl false 1 [], .sl false 2 [.agg [vi .i64 0, vi .i64 1]], .sl false 2 []]] = some (.sl false 46 [.agg [vi .u16 50, vi .u64 1, vi .u64 2, vi .i64 0, vi .u64 3, vi .i64 60, vi .u64 15117967196265648854, vi .u64 3048390888902185609, vi .u64 2089129140018500110, vi .u64 0, vi .i64 0, vi .u64 0, vi .u64 0, vi .u64 0, vi .u32 0, vf, vi .i64 0, vi .u32 0, vf, vf, .sl false 1 [], .sl false 3 [], .sl false 3 [], .sl false 10 [], .sl false 11 [], vi .u16 0, .sl false 18 [], .sl false 1 [], vi .i64 0, vf, vi .i64 0, vi .i64 0, vi .i64 0, vi .i64 0, vi .u16 0, vi .i64 0, vi .i64 0, vi .i64 0, vi .i64 0, .sl false 1 [], vi .i64 0, vf, vi .i64 0, .sl false 3 [], vi .u32 0, vt], .agg [vi .u16 51, vi .u64 1, vi .u64 2, vi .i64 0, vi .u64 3, vi .i64 60, vi .u64 15117967196265648854, vi .u64 3048390888902185609, vi .u64 2089129140018500110, vi .u64 0, vi .i64 0, vi .u64 0, vi .u64 0, vi .u64 0, vi .u32 0, vf, vi .i64 0, vi .u32 0, vf, vf, .sl false 1 [], .sl false 3 [], .sl false 3 [], .sl false 10 [], .sl false 11 [], vi .u16 0, .sl false 18 [], .sl false 1 [], vi .i64 0, vf, vi .i64 0, vi .i64 0, vi .i64 0, vi .i64 0, vi .u16 0, vi .i64 0, vi .i64 0, vi .i64 0, vi .i64 0, .sl false 1 [], vi .i64 0, vf, vi .i64 0, .sl false 3 [], vi .u32 0, vt]]) := by kernel_rfl
def tbT6 : List (List V × V) := [([.agg [.sl false 1 [vf, vf], .sl false 1 [], .sl false 2 [.agg [vi .i64 0, vi .i64 1]], .sl false 2 []]], .sl false 46 [.agg [vi .u16 50, vi .u64 1, vi .u64 2, vi .i64 0, vi .u64 3, vi .i64 60, vi .u64 15117967196265648854, vi .u64 3048390888902185609, vi .u64 2089129140018500110, vi .u64 0, vi .i64 0, vi .u64 0, vi .u64 0, vi .u64 0, vi .u32 0, vf, vi .i64 0, vi .u32 0, vf, vf, .sl false 1 [], .sl false 3 [], .sl false 3 [], .sl false 10 [], .sl false 11 [], vi .u16 0, .sl false 18 [], .sl false 1 [], vi .i64 0, vf, vi .i64 0, vi .i64 0, vi .i64 0, vi .i64 0, vi .u16 0, vi .i64 0, vi .i64 0, vi .i64 0, vi .i64 0, .sl false 1 [], vi .i64 0, vf, vi .i64 0, .sl false 3 [], vi .u32 0, vt], .agg [vi .u16 51, vi .u64 1, vi .u64 2, vi .i64 0, vi .u64 3, vi .i64 60, vi .u64 15117967196265648854, vi .u64 3048390888902185609, vi .u64 2089129140018500110, vi .u64 0, vi .i64 0, vi .u64 0, vi .u64 0, vi .u64 0, vi .u32 0, vf, vi .i64 0, vi .u32 0, vf, vf, .sl false 1 [], .sl false 3 [], .sl false 3 [], .sl false 10 [], .sl false 11 [], vi .u16 0, .sl false 18 [], .sl false 1 [], vi .i64 0, vf, vi .i64 0, vi .i64 0, vi .i64 0, vi .i64 0, vi .u16 0, vi .i64 0, vi .i64 0, vi .i64 0, vi .i64 0, .sl false 1 [], vi .i64 0, vf, vi .i64 0, .sl false 3 [], vi .u32 0, vt]])]
theorem gvT6 : GivenOK Tryz.prog gl 6 (tabF tbT6) := given_tab (given_runX mix_ok ckT0 exok_law54_lives hlok10 nilok10 (by rfl) Tryz.func6 (by kernel_rfl) 300) (tab_cons trT6_0 tab_nil)
def exT0 : FuncId → Option (List V → Option V)
  | 58 => some (tabF tbT58)
  | 8 => some (tabF tbT8)
  | 74 => some (tabF tbT74)
  | 6 => some (tabF tbT6)
  | g => ex_law54_lives g
theorem exokT0 : ∀ g F, exT0 g = some F → GivenOK Tryz.prog gl g F := fun g F h => by
  unfold exT0 at h
  split at h
  · cases h; exact gvT58
  · cases h; exact gvT8
  · cases h; exact gvT74
  · cases h; exact gvT6
  · exact exok_law54_lives _ _ h
theorem ckT1 : exCheck Tryz.prog gl fs10 pu10 [(58, 4)] [] exT0 hl10 = true := by kernel_rfl
theorem trT11_0 : runF (EX Tryz.prog gl fs10 pu10 [(58, 4)] [] exT0 hl10) 300 11 [.sl false 46 [.agg [vi .u16 50, vi .u64 1, vi .u64 2, vi .i64 0, vi .u64 3, vi .i64 60, vi .u64 15117967196265648854, vi .u64 3048390888902185609, vi .u64 2089129140018500110, vi .u64 0, vi .i64 0, vi .u64 0, vi .u64 0, vi .u64 0, vi .u32 0, vf, vi .i64 0, vi .u32 0, vf, vf, .sl false 1 [], .sl false 3 [], .sl false 3 [], .sl false 10 [], .sl false 11 [], vi .u16 0, .sl false 18 [], .sl false 1 [], vi .i64 0, vf, vi .i64 0, vi .i64 0, vi .i64 0, vi .i64 0, vi .u16 0, vi .i64 0, vi .i64 0, vi .i64 0, vi .i64 0, .sl false 1 [], vi .i64 0, vf, vi .i64 0, .sl false 3 [], vi .u32 0, vt], .agg [vi .u16 51, vi .u64 1, vi .u64 2, vi .i64 0, vi .u64 3, vi .i64 60, vi .u64 15117967196265648854, vi .u64 3048390888902185609, vi .u64 2089129140018500110, vi .u64 0, vi .i64 0, vi .u64 0, vi .u64 0, vi .u64 0, vi .u32 0, vf, vi .i64 0, vi .u32 0, vf, vf, .sl false 1 [], .sl false 3 [], .sl false 3 [], .sl false 10 [], .sl false 11 [], vi .u16 0, .sl false 18 [], .sl false 1 [], vi .i64 0, vf, vi .i64 0, vi .i64 0, vi .i64 0, vi .i64 0, vi .u16 0, vi .i64 0, vi .i64 0, vi .i64 0, vi .i64 0, .sl false 1 [], vi .i64 0, vf, vi .i64 0, .sl false 3 [], vi .u32 0, vt]], .sl false 2 [.agg [vi .i64 0, vi .i64 1]]] = some (.tup [.agg [.sl false 46 [.agg [vi .u16 50, vi .u64 1, vi .u64 2, vi .i64 0, vi .u64 3, vi .i64 60, vi .u64 15117967196265648854, vi .u64 3048390888902185609, vi .u64 2089129140018500110, vi .u64 0, vi .i64 0, vi .u64 0, vi .u64 0, vi .u64 0, vi .u32 0, vf, vi .i64 0, vi .u32 0, vf, vf, .sl false 1 [], .sl false 3 [], .sl false 3 [], .sl false 10 [], .sl false 11 [], vi .u16 0, .sl false 18 [], .sl false 1 [], vi .i64 0, vf, vi .i64 0, vi .i64 0, vi .i64 0, vi .i64 0, vi .u16 0, vi .i64 0, vi .i64 0, vi .i64 0, vi .i64 0, .sl false 1 [], vi .i64 0, vf, vi .i64 0, .sl false 3 [], vi .u32 0, vt], .agg [vi .u16 51, vi .u64 1, vi .u64 2, vi .i64 0, vi .u64 3, vi .i64 60, vi .u64 15117967196265648854, vi .u64 3048390888902185609, vi .u64 2089129140018500110, vi .u64 0, vi .i64 0, vi .u64 0, vi .u64 0, vi .u64 0, vi .u32 0, vf, vi .i64 0, vi .u32 0, vf, vf, .sl false 1 [], .sl false 3 [], .sl false 3 [], .sl false 10 [], .sl false 11 [], vi .u16 0, .sl false 18 [], .sl false 1 [], vi .i64 0, vf, vi .i64 0, vi .i64 0, vi .i64 0, vi .i64 0, vi .u16 0, vi .i64 0, vi .i64 0, vi .i64 0, vi .i64 0, .sl false 1 [], vi .i64 0, vf, vi .i64 0, .sl false 3 [], vi .u32 0, vt]], .sl false 2 [.agg [vi .i64 0, vi .i64 1]], .sl false 2 [], vi .i64 0, vi .i64 0, .sl false 4 [], .sl false 13 []], vi .i64 0]) := by kernel_rfl
theorem trT11_1 : runF (EX Tryz.prog gl fs10 pu10 [(58, 4)] [] exT0 hl10) 300 11 [.sl false 46 [.agg [vi .u16 50, vi .u64 1, vi .u64 2, vi .i64 0, vi .u64 3, vi .i64 60, vi .u64 15117967196265648854, vi .u64 3048390888902185609, vi .u64 2089129140018500110, vi .u64 0, vi .i64 0, vi .u64 0, vi .u64 0, vi .u64 0, vi .u32 0, vf, vi .i64 0, vi .u32 0, vf, vf, .sl false 1 [], .sl false 3 [], .sl false 3 [], .sl false 10 [], .sl false 11 [], vi .u16 0, .sl false 18 [], .sl false 1 [], vi .i64 0, vf, vi .i64 0, vi .i64 0, vi .i64 0, vi .i64 0, vi .u16 0, vi .i64 0, vi .i64 0, vi .i64 0, vi .i64 0, .sl false 1 [], vi .i64 0, vf, vi .i64 0, .sl false 3 [], vi .u32 0, vt], .agg [vi .u16 51, vi .u64 1, vi .u64 2, vi .i64 0, vi .u64 3, vi .i64 60, vi .u64 15117967196265648854, vi .u64 3048390888902185609, vi .u64 2089129140018500110, vi .u64 0, vi .i64 0, vi .u64 0, vi .u64 0, vi .u64 0, vi .u32 0, vf, vi .i64 0, vi .u32 0, vf, vf, .sl false 1 [], .sl false 3 [], .sl false 3 [], .sl false 10 [], .sl false 11 [], vi .u16 0, .sl false 18 [], .sl false 1 [], vi .i64 0, vf, vi .i64 0, vi .i64 0, vi .i64 0, vi .i64 0, vi .u16 0, vi .i64 0, vi .i64 0, vi .i64 0, vi .i64 0, .sl false 1 [], vi .i64 0, vf, vi .i64 0, .sl false 3 [], vi .u32 0, vt]], .sl false 2 [.agg [vi .i64 0, vi .i64 0]]] = some (.tup [.agg [.sl true 0 [], .sl true 0 [], .sl true 0 [], vi .i64 0, vi .i64 0, .sl true 0 [], .sl true 0 []], vi .i64 5]) := by kernel_rfl
def tbT11 : List (List V × V) := [([.sl false 46 [.agg [vi .u16 50, vi .u64 1, vi .u64 2, vi .i64 0, vi .u64 3, vi .i64 60, vi .u64 15117967196265648854, vi .u64 3048390888902185609, vi .u64 2089129140018500110, vi .u64 0, vi .i64 0, vi .u64 0, vi .u64 0, vi .u64 0, vi .u32 0, vf, vi .i64 0, vi .u32 0, vf, vf, .sl false 1 [], .sl false 3 [], .sl false 3 [], .sl false 10 [], .sl false 11 [], vi .u16 0, .sl false 18 [], .sl false 1 [], vi .i64 0, vf, vi .i64 0, vi .i64 0, vi .i64 0, vi .i64 0, vi .u16 0, vi .i64 0, vi .i64 0, vi .i64 0, vi .i64 0, .sl false 1 [], vi .i64 0, vf, vi .i64 0, .sl false 3 [], vi .u32 0, vt], .agg [vi .u16 51, vi .u64 1, vi .u64 2, vi .i64 0, vi .u64 3, vi .i64 60, vi .u64 15117967196265648854, vi .u64 3048390888902185609, vi .u64 2089129140018500110, vi .u64 0, vi .i64 0, vi .u64 0, vi .u64 0, vi .u64 0, vi .u32 0, vf, vi .i64 0, vi .u32 0, vf, vf, .sl false 1 [], .sl false 3 [], .sl false 3 [], .sl false 10 [], .sl false 11 [], vi .u16 0, .sl false 18 [], .sl false 1 [], vi .i64 0, vf, vi .i64 0, vi .i64 0, vi .i64 0, vi .i64 0, vi .u16 0, vi .i64 0, vi .i64 0, vi .i64 0, vi .i64 0, .sl false 1 [], vi .i64 0, vf, vi .i64 0, .sl false 3 [], vi .u32 0, vt]], .sl false 2 [.agg [vi .i64 0, vi .i64 1]]], .tup [.agg [.sl false 46 [.agg [vi .u16 50, vi .u64 1, vi .u64 2, vi .i64 0, vi .u64 3, vi .i64 60, vi .u64 15117967196265648854, vi .u64 3048390888902185609, vi .u64 2089129140018500110, vi .u64 0, vi .i64 0, vi .u64 0, vi .u64 0, vi .u64 0, vi .u32 0, vf, vi .i64 0, vi .u32 0, vf, vf, .sl false 1 [], .sl false 3 [], .sl false 3 [], .sl false 10 [], .sl false 11 [], vi .u16 0, .sl false 18 [], .sl false 1 [], vi .i64 0, vf, vi .i64 0, vi .i64 0, vi .i64 0, vi .i64 0, vi .u16 0, vi .i64 0, vi .i64 0, vi .i64 0, vi .i64 0, .sl false 1 [], vi .i64 0, vf, vi .i64 0, .sl false 3 [], vi .u32 0, vt], .agg [vi .u16 51, vi .u64 1, vi .u64 2, vi .i64 0, vi .u64 3, vi .i64 60, vi .u64 15117967196265648854, vi .u64 3048390888902185609, vi .u64 2089129140018500110, vi .u64 0, vi .i64 0, vi .u64 0, vi .u64 0, vi .u64 0, vi .u32 0, vf, vi .i64 0, vi .u32 0, vf, vf, .sl false 1 [], .sl false 3 [], .sl false 3 [], .sl false 10 [], .sl false 11 [], vi .u16 0, .sl false 18 [], .sl false 1 [], vi .i64 0, vf, vi .i64 0, vi .i64 0, vi .i64 0, vi .i64 0, vi .u16 0, vi .i64 0, vi .i64 0, vi .i64 0, vi .i64 0, .sl false 1 [], vi .i64 0, vf, vi .i64 0, .sl false 3 [], vi .u32 0, vt]], .sl false 2 [.agg [vi .i64 0, vi .i64 1]], .sl false 2 [], vi .i64 0, vi .i64 0, .sl false 4 [], .sl false 13 []], vi .i64 0]),
  ([.sl false 46 [.agg [vi .u16 50, vi .u64 1, vi .u64 2, vi .i64 0, vi .u64 3, vi .i64 60, vi .u64 15117967196265648854, vi .u64 3048390888902185609, vi .u64 2089129140018500110, vi .u64 0, vi .i64 0, vi .u64 0, vi .u64 0, vi .u64 0, vi .u32 0, vf, vi .i64 0, vi .u32 0, vf, vf, .sl false 1 [], .sl false 3 [], .sl false 3 [], .sl false 10 [], .sl false 11 [], vi .u16 0, .sl false 18 [], .sl false 1 [], vi .i64 0, vf, vi .i64 0, vi .i64 0, vi .i64 0, vi .i64 0, vi .u16 0, vi .i64 0, vi .i64 0, vi .i64 0, vi .i64 0, .sl false 1 [], vi .i64 0, vf, vi .i64 0, .sl false 3 [], vi .u32 0, vt], .agg [vi .u16 51, vi .u64 1, vi .u64 2, vi .i64 0, vi .u64 3, vi .i64 60, vi .u64 15117967196265648854, vi .u64 3048390888902185609, vi .u64 2089129140018500110, vi .u64 0, vi .i64 0, vi .u64 0, vi .u64 0, vi .u64 0, vi .u32 0, vf, vi .i64 0, vi .u32 0, vf, vf, .sl false 1 [], .sl false 3 [], .sl false 3 [], .sl false 10 [], .sl false 11 [], vi .u16 0, .sl false 18 [], .sl false 1 [], vi .i64 0, vf, vi .i64 0, vi .i64 0, vi .i64 0, vi .i64 0, vi .u16 0, vi .i64 0, vi .i64 0, vi .i64 0, vi .i64 0, .sl false 1 [], vi .i64 0, vf, vi .i64 0, .sl false 3 [], vi .u32 0, vt]], .sl false 2 [.agg [vi .i64 0, vi .i64 0]]], .tup [.agg [.sl true 0 [], .sl true 0 [], .sl true 0 [], vi .i64 0, vi .i64 0, .sl true 0 [], .sl true 0 []], vi .i64 5])]
theorem gvT11 : GivenOK Tryz.prog gl 11 (tabF tbT11) := given_tab (given_runX mix_ok ckT1 exokT0 hlok10 nilok10 (by rfl) Tryz.func11 (by kernel_rfl) 300) (tab_cons trT11_0 (tab_cons trT11_1 tab_nil))
theorem trT25_0 : runF (EX Tryz.prog gl fs10 pu10 [(58, 4)] [] exT0 hl10) 300 25 [.agg [.sl false 46 [.agg [vi .u16 50, vi .u64 1, vi .u64 2, vi .i64 0, vi .u64 3, vi .i64 60, vi .u64 15117967196265648854, vi .u64 3048390888902185609, vi .u64 2089129140018500110, vi .u64 0, vi .i64 0, vi .u64 0, vi .u64 0, vi .u64 0, vi .u32 0, vf, vi .i64 0, vi .u32 0, vf, vf, .sl false 1 [], .sl false 3 [], .sl false 3 [], .sl false 10 [], .sl false 11 [], vi .u16 0, .sl false 18 [], .sl false 1 [], vi .i64 0, vf, vi .i64 0, vi .i64 0, vi .i64 0, vi .i64 0, vi .u16 0, vi .i64 0, vi .i64 0, vi .i64 0, vi .i64 0, .sl false 1 [], vi .i64 0, vf, vi .i64 0, .sl false 3 [], vi .u32 0, vt], .agg [vi .u16 51, vi .u64 1, vi .u64 2, vi .i64 0, vi .u64 3, vi .i64 60, vi .u64 15117967196265648854, vi .u64 3048390888902185609, vi .u64 2089129140018500110, vi .u64 0, vi .i64 0, vi .u64 0, vi .u64 0, vi .u64 0, vi .u32 0, vf, vi .i64 0, vi .u32 0, vf, vf, .sl false 1 [], .sl false 3 [], .sl false 3 [], .sl false 10 [], .sl false 11 [], vi .u16 0, .sl false 18 [], .sl false 1 [], vi .i64 0, vf, vi .i64 0, vi .i64 0, vi .i64 0, vi .i64 0, vi .u16 0, vi .i64 0, vi .i64 0, vi .i64 0, vi .i64 0, .sl false 1 [], vi .i64 0, vf, vi .i64 0, .sl false 3 [], vi .u32 0, vt]], .sl false 2 [.agg [vi .i64 0, vi .i64 1]], .sl false 2 [], vi .i64 0, vi .i64 0, .sl false 4 [], .sl false 13 []], .agg [vi .i64 0, vi .i64 0, vi .i64 1, vi .u16 51, vi .i64 1, vt, .sl false 1 [vi .u8 7], vi .u64 0, vi .i64 0, vi .i64 0]] = some (.tup [.agg [.sl false 46 [.agg [vi .u16 50, vi .u64 1, vi .u64 2, vi .i64 0, vi .u64 3, vi .i64 60, vi .u64 15117967196265648854, vi .u64 3048390888902185609, vi .u64 2089129140018500110, vi .u64 0, vi .i64 0, vi .u64 0, vi .u64 0, vi .u64 0, vi .u32 0, vf, vi .i64 0, vi .u32 1, vf, vf, .sl false 1 [], .sl false 3 [], .sl false 3 [], .sl false 10 [], .sl false 11 [], vi .u16 0, .sl false 18 [], .sl false 1 [], vi .i64 0, vf, vi .i64 0, vi .i64 0, vi .i64 0, vi .i64 0, vi .u16 0, vi .i64 0, vi .i64 0, vi .i64 0, vi .i64 0, .sl false 1 [], vi .i64 0, vf, vi .i64 0, .sl false 3 [.agg [vi .i64 0, .sl false 1 [vi .u8 60, vi .u8 187, vi .u8 148, vi .u8 245, vi .u8 184, vi .u8 216, vi .u8 75, vi .u8 241, vi .u8 69, vi .u8 100, vi .u8 35, vi .u8 111, vi .u8 154, vi .u8 210, vi .u8 174, vi .u8 131, vi .u8 185, vi .u8 118, vi .u8 3], vi .u16 0]], vi .u32 100, vt], .agg [vi .u16 51, vi .u64 1, vi .u64 2, vi .i64 0, vi .u64 3, vi .i64 60, vi .u64 15117967196265648854, vi .u64 3048390888902185609, vi .u64 2089129140018500110, vi .u64 0, vi .i64 0, vi .u64 0, vi .u64 0, vi .u64 0, vi .u32 0, vf, vi .i64 0, vi .u32 0, vf, vf, .sl false 1 [], .sl false 3 [], .sl false 3 [], .sl false 10 [], .sl false 11 [], vi .u16 0, .sl false 18 [], .sl false 1 [], vi .i64 0, vf, vi .i64 0, vi .i64 0, vi .i64 0, vi .i64 0, vi .u16 0, vi .i64 0, vi .i64 0, vi .i64 0, vi .i64 0, .sl false 1 [], vi .i64 0, vf, vi .i64 0, .sl false 3 [], vi .u32 0, vt]], .sl false 2 [.agg [vi .i64 0, vi .i64 1]], .sl false 2 [], vi .i64 0, vi .i64 0, .sl false 4 [], .sl false 13 []], vi .i64 0]) := by kernel_rfl
def tbT25 : List (List V × V) := [([.agg [.sl false 46 [.agg [vi .u16 50, vi .u64 1, vi .u64 2, vi .i64 0, vi .u64 3, vi .i64 60, vi .u64 15117967196265648854, vi .u64 3048390888902185609, vi .u64 2089129140018500110, vi .u64 0, vi .i64 0, vi .u64 0, vi .u64 0, vi .u64 0, vi .u32 0, vf, vi .i64 0, vi .u32 0, vf, vf, .sl false 1 [], .sl false 3 [], .sl false 3 [], .sl false 10 [], .sl false 11 [], vi .u16 0, .sl false 18 [], .sl false 1 [], vi .i64 0, vf, vi .i64 0, vi .i64 0, vi .i64 0, vi .i64 0, vi .u16 0, vi .i64 0, vi .i64 0, vi .i64 0, vi .i64 0, .sl false 1 [], vi .i64 0, vf, vi .i64 0, .sl false 3 [], vi .u32 0, vt], .agg [vi .u16 51, vi .u64 1, vi .u64 2, vi .i64 0, vi .u64 3, vi .i64 60, vi .u64 15117967196265648854, vi .u64 3048390888902185609, vi .u64 2089129140018500110, vi .u64 0, vi .i64 0, vi .u64 0, vi .u64 0, vi .u64 0, vi .u32 0, vf, vi .i64 0, vi .u32 0, vf, vf, .sl false 1 [], .sl false 3 [], .sl false 3 [], .sl false 10 [], .sl false 11 [], vi .u16 0, .sl false 18 [], .sl false 1 [], vi .i64 0, vf, vi .i64 0, vi .i64 0, vi .i64 0, vi .i64 0, vi .u16 0, vi .i64 0, vi .i64 0, vi .i64 0, vi .i64 0, .sl false 1 [], vi .i64 0, vf, vi .i64 0, .sl false 3 [], vi .u32 0, vt]], .sl false 2 [.agg [vi .i64 0, vi .i64 1]], .sl false 2 [], vi .i64 0, vi .i64 0, .sl false 4 [], .sl false 13 []], .agg [vi .i64 0, vi .i64 0, vi .i64 1, vi .u16 51, vi .i64 1, vt, .sl false 1 [vi .u8 7], vi .u64 0, vi .i64 0, vi .i64 0]], .tup [.agg [.sl false 46 [.agg [vi .u16 50, vi .u64 1, vi .u64 2, vi .i64 0, vi .u64 3, vi .i64 60, vi .u64 15117967196265648854, vi .u64 3048390888902185609, vi .u64 2089129140018500110, vi .u64 0, vi .i64 0, vi .u64 0, vi .u64 0, vi .u64 0, vi .u32 0, vf, vi .i64 0, vi .u32 1, vf, vf, .sl false 1 [], .sl false 3 [], .sl false 3 [], .sl false 10 [], .sl false 11 [], vi .u16 0, .sl false 18 [], .sl false 1 [], vi .i64 0, vf, vi .i64 0, vi .i64 0, vi .i64 0, vi .i64 0, vi .u16 0, vi .i64 0, vi .i64 0, vi .i64 0, vi .i64 0, .sl false 1 [], vi .i64 0, vf, vi .i64 0, .sl false 3 [.agg [vi .i64 0, .sl false 1 [vi .u8 60, vi .u8 187, vi .u8 148, vi .u8 245, vi .u8 184, vi .u8 216, vi .u8 75, vi .u8 241, vi .u8 69, vi .u8 100, vi .u8 35, vi .u8 111, vi .u8 154, vi .u8 210, vi .u8 174, vi .u8 131, vi .u8 185, vi .u8 118, vi .u8 3], vi .u16 0]], vi .u32 100, vt], .agg [vi .u16 51, vi .u64 1, vi .u64 2, vi .i64 0, vi .u64 3, vi .i64 60, vi .u64 15117967196265648854, vi .u64 3048390888902185609, vi .u64 2089129140018500110, vi .u64 0, vi .i64 0, vi .u64 0, vi .u64 0, vi .u64 0, vi .u32 0, vf, vi .i64 0, vi .u32 0, vf, vf, .sl false 1 [], .sl false 3 [], .sl false 3 [], .sl false 10 [], .sl false 11 [], vi .u16 0, .sl false 18 [], .sl false 1 [], vi .i64 0, vf, vi .i64 0, vi .i64 0, vi .i64 0, vi .i64 0, vi .u16 0, vi .i64 0, vi .i64 0, vi .i64 0, vi .i64 0, .sl false 1 [], vi .i64 0, vf, vi .i64 0, .sl false 3 [], vi .u32 0, vt]], .sl false 2 [.agg [vi .i64 0, vi .i64 1]], .sl false 2 [], vi .i64 0, vi .i64 0, .sl false 4 [], .sl false 13 []], vi .i64 0])]
theorem gvT25 : GivenOK Tryz.prog gl 25 (tabF tbT25) := given_tab (given_runX mix_ok ckT1 exokT0 hlok10 nilok10 (by rfl) Tryz.func25 (by kernel_rfl) 300) (tab_cons trT25_0 tab_nil)
theorem trT7_0 : runF (EX Tryz.prog gl fs10 pu10 [(58, 4)] [] exT0 hl10) 300 7 [.agg [.sl false 46 [.agg [vi .u16 50, vi .u64 1, vi .u64 2, vi .i64 0, vi .u64 3, vi .i64 60, vi .u64 15117967196265648854, vi .u64 3048390888902185609, vi .u64 2089129140018500110, vi .u64 0, vi .i64 0, vi .u64 0, vi .u64 0, vi .u64 0, vi .u32 0, vf, vi .i64 0, vi .u32 1, vf, vf, .sl false 1 [], .sl false 3 [], .sl false 3 [], .sl false 10 [], .sl false 11 [], vi .u16 0, .sl false 18 [], .sl false 1 [], vi .i64 0, vf, vi .i64 0, vi .i64 0, vi .i64 0, vi .i64 0, vi .u16 0, vi .i64 0, vi .i64 0, vi .i64 0, vi .i64 0, .sl false 1 [], vi .i64 0, vf, vi .i64 0, .sl false 3 [.agg [vi .i64 0, .sl false 1 [vi .u8 60, vi .u8 187, vi .u8 148, vi .u8 245, vi .u8 184, vi .u8 216, vi .u8 75, vi .u8 241, vi .u8 69, vi .u8 100, vi .u8 35, vi .u8 111, vi .u8 154, vi .u8 210, vi .u8 174, vi .u8 131, vi .u8 185, vi .u8 118, vi .u8 3], vi .u16 0]], vi .u32 100, vt], .agg [vi .u16 51, vi .u64 1, vi .u64 2, vi .i64 0, vi .u64 3, vi .i64 60, vi .u64 15117967196265648854, vi .u64 3048390888902185609, vi .u64 2089129140018500110, vi .u64 0, vi .i64 0, vi .u64 0, vi .u64 0, vi .u64 0, vi .u32 0, vf, vi .i64 0, vi .u32 0, vf, vf, .sl false 1 [], .sl false 3 [], .sl false 3 [], .sl false 10 [], .sl false 11 [], vi .u16 0, .sl false 18 [], .sl false 1 [], vi .i64 0, vf, vi .i64 0, vi .i64 0, vi .i64 0, vi .i64 0, vi .u16 0, vi .i64 0, vi .i64 0, vi .i64 0, vi .i64 0, .sl false 1 [], vi .i64 0, vf, vi .i64 0, .sl false 3 [], vi .u32 0, vt]], .sl false 2 [.agg [vi .i64 0, vi .i64 1]], .sl false 2 [], vi .i64 0, vi .i64 0, .sl false 4 [], .sl false 13 []]] = some (.agg [.sl false 46 [.agg [vi .u16 50, vi .u64 1, vi .u64 2, vi .i64 0, vi .u64 3, vi .i64 60, vi .u64 15117967196265648854, vi .u64 3048390888902185609, vi .u64 2089129140018500110, vi .u64 0, vi .i64 0, vi .u64 0, vi .u64 0, vi .u64 0, vi .u32 0, vf, vi .i64 0, vi .u32 1, vf, vf, .sl false 1 [], .sl false 3 [], .sl false 3 [], .sl false 10 [], .sl false 11 [], vi .u16 0, .sl false 18 [], .sl false 1 [], vi .i64 0, vf, vi .i64 0, vi .i64 0, vi .i64 0, vi .i64 0, vi .u16 0, vi .i64 0, vi .i64 0, vi .i64 0, vi .i64 0, .sl false 1 [], vi .i64 0, vf, vi .i64 0, .sl false 3 [], vi .u32 100, vt], .agg [vi .u16 51, vi .u64 1, vi .u64 2, vi .i64 0, vi .u64 3, vi .i64 60, vi .u64 15117967196265648854, vi .u64 3048390888902185609, vi .u64 2089129140018500110, vi .u64 0, vi .i64 0, vi .u64 0, vi .u64 0, vi .u64 0, vi .u32 0, vf, vi .i64 0, vi .u32 0, vf, vf, .sl false 1 [], .sl false 3 [], .sl false 3 [], .sl false 10 [], .sl false 11 [], vi .u16 0, .sl false 18 [], .sl false 1 [], vi .i64 0, vf, vi .i64 0, vi .i64 0, vi .i64 0, vi .i64 0, vi .u16 0, vi .i64 0, vi .i64 0, vi .i64 0, vi .i64 0, .sl false 1 [], vi .i64 0, vf, vi .i64 0, .sl false 3 [], vi .u32 0, vt]], .sl false 2 [.agg [vi .i64 0, vi .i64 1]], .sl false 2 [], vi .i64 1, vi .i64 1, .sl false 4 [.agg [vi .i64 0, vi .i64 1, vi .i64 2, .sl false 1 [vi .u8 60, vi .u8 187, vi .u8 148, vi .u8 245, vi .u8 184, vi .u8 216, vi .u8 75, vi .u8 241, vi .u8 69, vi .u8 100, vi .u8 35, vi .u8 111, vi .u8 154, vi .u8 210, vi .u8 174, vi .u8 131, vi .u8 185, vi .u8 118, vi .u8 3]]], .sl false 13 []]) := by kernel_rfl
theorem trT7_1 : runF (EX Tryz.prog gl fs10 pu10 [(58, 4)] [] exT0 hl10) 300 7 [.agg [.sl false 46 [.agg [vi .u16 50, vi .u64 1, vi .u64 2, vi .i64 0, vi .u64 3, vi .i64 60, vi .u64 15117967196265648854, vi .u64 3048390888902185609, vi .u64 2089129140018500110, vi .u64 0, vi .i64 0, vi .u64 0, vi .u64 0, vi .u64 0, vi .u32 0, vf, vi .i64 0, vi .u32 1, vf, vf, .sl false 1 [], .sl false 3 [], .sl false 3 [], .sl false 10 [], .sl false 11 [], vi .u16 0, .sl false 18 [], .sl false 1 [], vi .i64 0, vf, vi .i64 0, vi .i64 0, vi .i64 0, vi .i64 0, vi .u16 0, vi .i64 0, vi .i64 0, vi .i64 0, vi .i64 0, .sl false 1 [], vi .i64 0, vf, vi .i64 0, .sl false 3 [], vi .u32 100, vt], .agg [vi .u16 51, vi .u64 1, vi .u64 2, vi .i64 0, vi .u64 3, vi .i64 60, vi .u64 15117967196265648854, vi .u64 3048390888902185609, vi .u64 2089129140018500110, vi .u64 0, vi .i64 0, vi .u64 0, vi .u64 0, vi .u64 0, vi .u32 0, vf, vi .i64 0, vi .u32 0, vf, vf, .sl false 1 [], .sl false 3 [], .sl false 3 [], .sl false 10 [], .sl false 11 [], vi .u16 0, .sl false 18 [], .sl false 1 [], vi .i64 0, vf, vi .i64 0, vi .i64 0, vi .i64 0, vi .i64 0, vi .u16 0, vi .i64 0, vi .i64 0, vi .i64 0, vi .i64 0, .sl false 1 [], vi .i64 0, vf, vi .i64 0, .sl false 3 [], vi .u32 0, vt]], .sl false 2 [.agg [vi .i64 0, vi .i64 1]], .sl false 2 [], vi .i64 1, vi .i64 1, .sl false 4 [.agg [vi .i64 0, vi .i64 1, vi .i64 2, .sl false 1 [vi .u8 60, vi .u8 187, vi .u8 148, vi .u8 245, vi .u8 184, vi .u8 216, vi .u8 75, vi .u8 241, vi .u8 69, vi .u8 100, vi .u8 35, vi .u8 111, vi .u8 154, vi .u8 210, vi .u8 174, vi .u8 131, vi .u8 185, vi .u8 118, vi .u8 3]]], .sl false 13 []]] = some (.agg [.sl false 46 [.agg [vi .u16 50, vi .u64 1, vi .u64 2, vi .i64 0, vi .u64 3, vi .i64 60, vi .u64 15117967196265648854, vi .u64 3048390888902185609, vi .u64 2089129140018500110, vi .u64 0, vi .i64 0, vi .u64 0, vi .u64 0, vi .u64 0, vi .u32 0, vf, vi .i64 0, vi .u32 1, vf, vf, .sl false 1 [], .sl false 3 [], .sl false 3 [], .sl false 10 [], .sl false 11 [], vi .u16 0, .sl false 18 [], .sl false 1 [], vi .i64 0, vf, vi .i64 0, vi .i64 0, vi .i64 0, vi .i64 0, vi .u16 0, vi .i64 0, vi .i64 0, vi .i64 0, vi .i64 0, .sl false 1 [], vi .i64 0, vf, vi .i64 0, .sl false 3 [], vi .u32 100, vt], .agg [vi .u16 51, vi .u64 1, vi .u64 2, vi .i64 0, vi .u64 3, vi .i64 60, vi .u64 15117967196265648854, vi .u64 3048390888902185609, vi .u64 2089129140018500110, vi .u64 0, vi .i64 0, vi .u64 0, vi .u64 0, vi .u64 0, vi .u32 0, vf, vi .i64 0, vi .u32 0, vf, vf, .sl false 1 [], .sl false 3 [.agg [vi .u16 50, vi .u32 0, vi .u32 0]], .sl false 3 [.agg [vi .u16 50, vi .u32 0, vi .u32 0]], .sl false 10 [], .sl false 11 [], vi .u16 0, .sl false 18 [], .sl false 1 [], vi .i64 0, vf, vi .i64 0, vi .i64 0, vi .i64 0, vi .i64 0, vi .u16 0, vi .i64 0, vi .i64 0, vi .i64 0, vi .i64 0, .sl false 1 [], vi .i64 0, vf, vi .i64 0, .sl false 3 [], vi .u32 0, vt]], .sl false 2 [.agg [vi .i64 0, vi .i64 1]], .sl false 2 [], vi .i64 1, vi .i64 2, .sl false 4 [], .sl false 13 [.agg [vi .i64 1, vi .i64 2, vi .i64 1, vi .u16 50, vi .u16 51, vt, vi .i64 1, vi .u16 50, vi .u32 0, vi .u32 0, .sl false 1 [vi .u8 7], vi .u16 0, vi .u64 0]]]) := by kernel_rfl
def tbT7 : List (List V × V) := [([.agg [.sl false 46 [.agg [vi .u16 50, vi .u64 1, vi .u64 2, vi .i64 0, vi .u64 3, vi .i64 60, vi .u64 15117967196265648854, vi .u64 3048390888902185609, vi .u64 2089129140018500110, vi .u64 0, vi .i64 0, vi .u64 0, vi .u64 0, vi .u64 0, vi .u32 0, vf, vi .i64 0, vi .u32 1, vf, vf, .sl false 1 [], .sl false 3 [], .sl false 3 [], .sl false 10 [], .sl false 11 [], vi .u16 0, .sl false 18 [], .sl false 1 [], vi .i64 0, vf, vi .i64 0, vi .i64 0, vi .i64 0, vi .i64 0, vi .u16 0, vi .i64 0, vi .i64 0, vi .i64 0, vi .i64 0, .sl false 1 [], vi .i64 0, vf, vi .i64 0, .sl false 3 [.agg [vi .i64 0, .sl false 1 [vi .u8 60, vi .u8 187, vi .u8 148, vi .u8 245, vi .u8 184, vi .u8 216, vi .u8 75, vi .u8 241, vi .u8 69, vi .u8 100, vi .u8 35, vi .u8 111, vi .u8 154, vi .u8 210, vi .u8 174, vi .u8 131, vi .u8 185, vi .u8 118, vi .u8 3], vi .u16 0]], vi .u32 100, vt], .agg [vi .u16 51, vi .u64 1, vi .u64 2, vi .i64 0, vi .u64 3, vi .i64 60, vi .u64 15117967196265648854, vi .u64 3048390888902185609, vi .u64 2089129140018500110, vi .u64 0, vi .i64 0, vi .u64 0, vi .u64 0, vi .u64 0, vi .u32 0, vf, vi .i64 0, vi .u32 0, vf, vf, .sl false 1 [], .sl false 3 [], .sl false 3 [], .sl false 10 [], .sl false 11 [], vi .u16 0, .sl false 18 [], .sl false 1 [], vi .i64 0, vf, vi .i64 0, vi .i64 0, vi .i64 0, vi .i64 0, vi .u16 0, vi .i64 0, vi .i64 0, vi .i64 0, vi .i64 0, .sl false 1 [], vi .i64 0, vf, vi .i64 0, .sl false 3 [], vi .u32 0, vt]], .sl false 2 [.agg [vi .i64 0, vi .i64 1]], .sl false 2 [], vi .i64 0, vi .i64 0, .sl false 4 [], .sl false 13 []]], .agg [.sl false 46 [.agg [vi .u16 50, vi .u64 1, vi .u64 2, vi .i64 0, vi .u64 3, vi .i64 60, vi .u64 15117967196265648854, vi .u64 3048390888902185609, vi .u64 2089129140018500110, vi .u64 0, vi .i64 0, vi .u64 0, vi .u64 0, vi .u64 0, vi .u32 0, vf, vi .i64 0, vi .u32 1, vf, vf, .sl false 1 [], .sl false 3 [], .sl false 3 [], .sl false 10 [], .sl false 11 [], vi .u16 0, .sl false 18 [], .sl false 1 [], vi .i64 0, vf, vi .i64 0, vi .i64 0, vi .i64 0, vi .i64 0, vi .u16 0, vi .i64 0, vi .i64 0, vi .i64 0, vi .i64 0, .sl false 1 [], vi .i64 0, vf, vi .i64 0, .sl false 3 [], vi .u32 100, vt], .agg [vi .u16 51, vi .u64 1, vi .u64 2, vi .i64 0, vi .u64 3, vi .i64 60, vi .u64 15117967196265648854, vi .u64 3048390888902185609, vi .u64 2089129140018500110, vi .u64 0, vi .i64 0, vi .u64 0, vi .u64 0, vi .u64 0, vi .u32 0, vf, vi .i64 0, vi .u32 0, vf, vf, .sl false 1 [], .sl false 3 [], .sl false 3 [], .sl false 10 [], .sl false 11 [], vi .u16 0, .sl false 18 [], .sl false 1 [], vi .i64 0, vf, vi .i64 0, vi .i64 0, vi .i64 0, vi .i64 0, vi .u16 0, vi .i64 0, vi .i64 0, vi .i64 0, vi .i64 0, .sl false 1 [], vi .i64 0, vf, vi .i64 0, .sl false 3 [], vi .u32 0, vt]], .sl false 2 [.agg [vi .i64 0, vi .i64 1]], .sl false 2 [], vi .i64 1, vi .i64 1, .sl false 4 [.agg [vi .i64 0, vi .i64 1, vi .i64 2, .sl false 1 [vi .u8 60, vi .u8 187, vi .u8 148, vi .u8 245, vi .u8 184, vi .u8 216, vi .u8 75, vi .u8 241, vi .u8 69, vi .u8 100, vi .u8 35, vi .u8 111, vi .u8 154, vi .u8 210, vi .u8 174, vi .u8 131, vi .u8 185, vi .u8 118, vi .u8 3]]], .sl false 13 []]),
  ([.agg [.sl false 46 [.agg [vi .u16 50, vi .u64 1, vi .u64 2, vi .i64 0, vi .u64 3, vi .i64 60, vi .u64 15117967196265648854, vi .u64 3048390888902185609, vi .u64 2089129140018500110, vi .u64 0, vi .i64 0, vi .u64 0, vi .u64 0, vi .u64 0, vi .u32 0, vf, vi .i64 0, vi .u32 1, vf, vf, .sl false 1 [], .sl false 3 [], .sl false 3 [], .sl false 10 [], .sl false 11 [], vi .u16 0, .sl false 18 [], .sl false 1 [], vi .i64 0, vf, vi .i64 0, vi .i64 0, vi .i64 0, vi .i64 0, vi .u16 0, vi .i64 0, vi .i64 0, vi .i64 0, vi .i64 0, .sl false 1 [], vi .i64 0, vf, vi .i64 0, .sl false 3 [], vi .u32 100, vt], .agg [vi .u16 51, vi .u64 1, vi .u64 2, vi .i64 0, vi .u64 3, vi .i64 60, vi .u64 15117967196265648854, vi .u64 3048390888902185609, vi .u64 2089129140018500110, vi .u64 0, vi .i64 0, vi .u64 0, vi .u64 0, vi .u64 0, vi .u32 0, vf, vi .i64 0, vi .u32 0, vf, vf, .sl false 1 [], .sl false 3 [], .sl false 3 [], .sl false 10 [], .sl false 11 [], vi .u16 0, .sl false 18 [], .sl false 1 [], vi .i64 0, vf, vi .i64 0, vi .i64 0, vi .i64 0, vi .i64 0, vi .u16 0, vi .i64 0, vi .i64 0, vi .i64 0, vi .i64 0, .sl false 1 [], vi .i64 0, vf, vi .i64 0, .sl false 3 [], vi .u32 0, vt]], .sl false 2 [.agg [vi .i64 0, vi .i64 1]], .sl false 2 [], vi .i64 1, vi .i64 1, .sl false 4 [.agg [vi .i64 0, vi .i64 1, vi .i64 2, .sl false 1 [vi .u8 60, vi .u8 187, vi .u8 148, vi .u8 245, vi .u8 184, vi .u8 216, vi .u8 75, vi .u8 241, vi .u8 69, vi .u8 100, vi .u8 35, vi .u8 111, vi .u8 154, vi .u8 210, vi .u8 174, vi .u8 131, vi .u8 185, vi .u8 118, vi .u8 3]]], .sl false 13 []]], .agg [.sl false 46 [.agg [vi .u16 50, vi .u64 1, vi .u64 2, vi .i64 0, vi .u64 3, vi .i64 60, vi .u64 15117967196265648854, vi .u64 3048390888902185609, vi .u64 2089129140018500110, vi .u64 0, vi .i64 0, vi .u64 0, vi .u64 0, vi .u64 0, vi .u32 0, vf, vi .i64 0, vi .u32 1, vf, vf, .sl false 1 [], .sl false 3 [], .sl false 3 [], .sl false 10 [], .sl false 11 [], vi .u16 0, .sl false 18 [], .sl false 1 [], vi .i64 0, vf, vi .i64 0, vi .i64 0, vi .i64 0, vi .i64 0, vi .u16 0, vi .i64 0, vi .i64 0, vi .i64 0, vi .i64 0, .sl false 1 [], vi .i64 0, vf, vi .i64 0, .sl false 3 [], vi .u32 100, vt], .agg [vi .u16 51, vi .u64 1, vi .u64 2, vi .i64 0, vi .u64 3, vi .i64 60, vi .u64 15117967196265648854, vi .u64 3048390888902185609, vi .u64 2089129140018500110, vi .u64 0, vi .i64 0, vi .u64 0, vi .u64 0, vi .u64 0, vi .u32 0, vf, vi .i64 0, vi .u32 0, vf, vf, .sl false 1 [], .sl false 3 [.agg [vi .u16 50, vi .u32 0, vi .u32 0]], .sl false 3 [.agg [vi .u16 50, vi .u32 0, vi .u32 0]], .sl false 10 [], .sl false 11 [], vi .u16 0, .sl false 18 [], .sl false 1 [], vi .i64 0, vf, vi .i64 0, vi .i64 0, vi .i64 0, vi .i64 0, vi .u16 0, vi .i64 0, vi .i64 0, vi .i64 0, vi .i64 0, .sl false 1 [], vi .i64 0, vf, vi .i64 0, .sl false 3 [], vi .u32 0, vt]], .sl false 2 [.agg [vi .i64 0, vi .i64 1]], .sl false 2 [], vi .i64 1, vi .i64 2, .sl false 4 [], .sl false 13 [.agg [vi .i64 1, vi .i64 2, vi .i64 1, vi .u16 50, vi .u16 51, vt, vi .i64 1, vi .u16 50, vi .u32 0, vi .u32 0, .sl false 1 [vi .u8 7], vi .u16 0, vi .u64 0]]])]
theorem gvT7 : GivenOK Tryz.prog gl 7 (tabF tbT7) := given_tab (given_runX mix_ok ckT1 exokT0 hlok10 nilok10 (by rfl) Tryz.func7 (by kernel_rfl) 300) (tab_cons trT7_0 (tab_cons trT7_1 tab_nil))
def exT1 : FuncId → Option (List V → Option V)
  | 11 => some (tabF tbT11)
  | 25 => some (tabF tbT25)
  | 7 => some (tabF tbT7)
  | g => exT0 g
theorem exokT1 : ∀ g F, exT1 g = some F → GivenOK Tryz.prog gl g F := fun g F h => by
  unfold exT1 at h
  split at h
  · cases h; exact gvT11
  · cases h; exact gvT25
  · cases h; exact gvT7
  · exact exokT0 _ _ h
def m_law54_lives : Option Bool := some true
def M_law54_lives : Mod U := { ts := [], rt := 4, fn := fun _ => m_law54_lives, ok := by decide }
theorem ck_law54_lives : exCheck Tryz.prog gl fs10 pu10 [(58, 4)] [] exT1 hl10 = true := by kernel_rfl
theorem ok_law54_lives : FnOK Tryz.prog B0 10 M_law54_lives := closedX_ok rfl mix_ok ck_law54_lives exokT1 hlok10 nilok10 (by rfl) (by decide) rfl Tryz.func10 (by kernel_rfl) (n := 300) (m := M_law54_lives) rfl (a := true) (fun _ => rfl) (by kernel_rfl)

end
end Go.Proofs.YtpikcdlhgiooaaaGreat

