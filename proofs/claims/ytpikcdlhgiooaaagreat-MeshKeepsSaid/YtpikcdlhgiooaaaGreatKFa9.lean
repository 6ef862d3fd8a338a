/-
  Functions of the program as functions of Lean (printed by a program of mine).
-/
import Derived.Test.YtpikcdlhgiooaaaGreatKGe
namespace Go.Proofs.YtpikcdlhgiooaaaGreat
open Go Go.Proofs.YtpikcdlhgiooaaaGreat.Le
set_option linter.unusedVariables false
set_option maxRecDepth 100000
noncomputable section
/-! wireless/wirelesslaw54.MeshKeeps -/
inductive P_law54_MeshKeeps where
  | b0 (a0 : Bool) (a1 : Int)
  | b1 (a0 : Int) (a1 : wirelesslaw54_Plan) (a2 : api_Mesh)
  | b2 (a0 a1 : Int) (a2 : api_Mesh) (a3 : api_Node)
def T_law54_MeshKeeps : P_law54_MeshKeeps → Tr U (Bool ⊕ P_law54_MeshKeeps)
  | .b0 a0 a1 => .chk true (
    .bind 33 (m_law54_begin (⟨[a0], [], [], []⟩ : wirelesslaw54_Plan)) (fun (x1 : api_Mesh × api_Mesh × Int × Bool) => 
      .br (!x1.2.2.2) (
        lfD false) (
        .br (x1.2.2.1 != 0) (
          lfD false) (
          .chk (true && kL ([a0])) (
            lfJ (.b1 a1 (⟨[a0], ([] : List Bool), ([] : List api_Pair), ([] : List api_Loss)⟩ : wirelesslaw54_Plan) x1.1))))))
  | .b1 a0 a1 a2 => kl a1.Relays (
    .bind 27 (m_law54_Plan_nodes a1) (fun (x1 : List api_Node) => 
      .chk (kI (0 : Int) x1) (
        .bind 59 (x1[(Int.toNat 0)]?) (fun (x2 : api_Node) => 
          lfJ (.b2 a0 (1 : Int) a2 x2)))))
  | .b2 a0 a1 a2 a3 => .br (decide (a1 ≤ (w64 (a0)))) (
    .bind 31 (m_mesh_Tick a2) (fun (x1 : api_Mesh) => 
      .bind 63 (m_node_Tick a3 a1) (fun (x2 : api_Node × (List api_Timed) × (List api_MeshEvent)) => 
        lfJ (.b2 a0 (w64 (a1 + 1)) x1 x2.1)))) (
    .chk (kI (0 : Int) a2.Nodes) (
      .bind 59 (a2.Nodes[(Int.toNat 0)]?) (fun (x3 : api_Node) => 
        .bind 4 (m_r53_Same x3 a3) (fun (x4 : Bool) => 
          .br x4 (
            .br (a2.Now == (w64 (a0))) (
              .bind 4 (m_law54_lives) (fun (x5 : Bool) => 
                lfD x5)) (
              lfD false)) (
            lfD false)))))
def m_law54_MeshKeeps (a0 : Bool) (a1 : Int) : Option Bool := flow T_law54_MeshKeeps (.b0 a0 a1)
def M_law54_MeshKeeps : Mod U := ⟨[4, 5], 4, fun x => m_law54_MeshKeeps x.1 x.2.1, by decide⟩
def L_law54_MeshKeeps_1 : Lay := ⟨[1, 5, 6], [[.keep], [.keep], [.keep]], [.var [.own 4 1, .s 4 1, .s 90 2, .s 117 2], .var [.s 59 46, .s 90 2, .s 117 2, .keep, .keep, .s 109 4, .s 103 13], .row false], ⟨[.one (.v 5 1 false), .one (.ptr 0), .one (.ptr 1)], [.var 26 4 (.agg [.own 4 2, .v 22 1 false, .v 23 1 false, .v 24 1 false]), .var 31 7 (.agg [.v 31 7 true]), .row 4 false]⟩⟩
def L_law54_MeshKeeps_2 : Lay := LT [1, 6, 10, 11] [.v 5, .p 0, .p 1, .v 3] [.s 31, .s 59]
def sp_law54_MeshKeeps : P_law54_MeshKeeps → Spot U
  | .b0 a0 a1 => entP Tryz.f3 [4, 5] (a0, a1, ())
  | .b1 a0 a1 a2 => spL Tryz.f3 [1, 1, 1, 1, 0] L_law54_MeshKeeps_1 (((a0, ()), ((), ((), ()))), ((a1.Friends, (a1.Links, (a1.Losses, ()))), ((a2, ()), (a1.Relays, ()))))
  | .b2 a0 a1 a2 a3 => spL Tryz.f3 [1, 1, 1, 1, 1, 0, 1, 0, 0, 0, 0] L_law54_MeshKeeps_2 (((a0, ()), ((), ((), ((a1, ()), ())))), ((a2, ()), ((a3, ()), ())))
theorem ok_law54_MeshKeeps : FnOK Tryz.prog B0 3 M_law54_MeshKeeps := okQ (mc ok_law54_begin (mc ok_law54_Plan_nodes (mc ok_mesh_Tick (mc ok_node_Tick (mc ok_r53_Same (mc ok_law54_lives msN)))))) hsN (al [(5, L_law54_MeshKeeps_1), (7, L_law54_MeshKeeps_2)]) sp_law54_MeshKeeps Tryz.func3 (fun p => by cases p <;> kernel_rfl) (by kernel_rfl) fun _ => rfl

end
end Go.Proofs.YtpikcdlhgiooaaaGreat
