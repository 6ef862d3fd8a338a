/-
  Functions of the program as functions of Lean (printed by a program of mine).
-/
import Derived.Test.YtlnlbmpgaghhhaaGreatDoorFa3
namespace Go.Proofs.YtlnlbmpgaghhhaaGreatDoor
open Go Go.Proofs.YtlnlbmpgaghhhaaGreatDoor.Le
set_option linter.unusedVariables false
set_option maxRecDepth 100000
/-! wireless/audit.Names -/
inductive P_audit_Names where
  | b0 (a0 : List api_Fault)
  | b1 (a0 : List ByteArray) (a1 : List api_Fault) (a2 : Int) (a3 : Int) (a4 : Anon79)
  | b2 (a0 : List ByteArray) (a1 : List api_Fault) (a2 : Int) (a3 : Int) (a4 : Anon79) (a5 : api_Fault)
  | b3 (a0 : List ByteArray) (a1 : ByteArray) (a2 : List api_Fault) (a3 : Int) (a4 : Int) (a5 : Anon79)
noncomputable def T_audit_Names : P_audit_Names → Tr U (ByteArray ⊕ P_audit_Names)
  | .b0 a0 => .chk (([] : List ByteArray).length == 0) (
    .leaf (.inr (.b1 ([] : List ByteArray) a0 (↑a0.length : Int) (0 : Int) (⟨(⟨#[]⟩ : ByteArray), (⟨#[111, 114, 100, 101, 114]⟩ : ByteArray), (⟨#[105, 110, 115, 116, 97, 110, 116]⟩ : ByteArray), (⟨#[115, 116, 97, 108, 101]⟩ : ByteArray), (⟨#[107, 101, 121, 115]⟩ : ByteArray), (⟨#[98, 111, 110, 100]⟩ : ByteArray), (⟨#[99, 97, 112, 116, 117, 114, 101]⟩ : ByteArray), (⟨#[116, 119, 105, 99, 101]⟩ : ByteArray)⟩ : Anon79))))
  | .b1 a0 a1 a2 a3 a4 => .br (decide (a3 < a2)) (
    .chk (decide (0 ≤ a3 ∧ a3 < (↑a1.length : Int))) (
      .bind 62 (a1[(Int.toNat a3)]?) (fun (x1 : api_Fault) => 
        .br (decide (x1.Kind > (0 : Int))) (
          .br (decide (x1.Kind < (8 : Int))) (
            .chk (a0.length == a0.length) (
              .leaf (.inr (.b2 a0 a1 a2 a3 a4 x1)))) (
            .chk (a0.length == a0.length) (
              .leaf (.inr (.b3 a0 (⟨#[117, 110, 107, 110, 111, 119, 110]⟩ : ByteArray) a1 a2 a3 a4))))) (
          .chk (a0.length == a0.length) (
            .leaf (.inr (.b3 a0 (⟨#[117, 110, 107, 110, 111, 119, 110]⟩ : ByteArray) a1 a2 a3 a4))))))) (
    .chk (a0.length == a0.length) (
      .bind 9 (m_strings_Join a0 (⟨#[32]⟩ : ByteArray)) (fun (x2 : ByteArray) => 
        .leaf (.inl x2))))
  | .b2 a0 a1 a2 a3 a4 a5 => .br (a5.Kind == (0 : Int)) (
    .chk (a0.length == a0.length) (
      .leaf (.inr (.b3 a0 a4.x0 a1 a2 a3 a4)))) (
    .br (a5.Kind == (1 : Int)) (
      .chk (a0.length == a0.length) (
        .leaf (.inr (.b3 a0 a4.x1 a1 a2 a3 a4)))) (
      .br (a5.Kind == (2 : Int)) (
        .chk (a0.length == a0.length) (
          .leaf (.inr (.b3 a0 a4.x2 a1 a2 a3 a4)))) (
        .br (a5.Kind == (3 : Int)) (
          .chk (a0.length == a0.length) (
            .leaf (.inr (.b3 a0 a4.x3 a1 a2 a3 a4)))) (
          .br (a5.Kind == (4 : Int)) (
            .chk (a0.length == a0.length) (
              .leaf (.inr (.b3 a0 a4.x4 a1 a2 a3 a4)))) (
            .br (a5.Kind == (5 : Int)) (
              .chk (a0.length == a0.length) (
                .leaf (.inr (.b3 a0 a4.x5 a1 a2 a3 a4)))) (
              .br (a5.Kind == (6 : Int)) (
                .chk (a0.length == a0.length) (
                  .leaf (.inr (.b3 a0 a4.x6 a1 a2 a3 a4)))) (
                .br (a5.Kind == (7 : Int)) (
                  .chk (a0.length == a0.length) (
                    .leaf (.inr (.b3 a0 a4.x7 a1 a2 a3 a4)))) (
                  .fail))))))))
  | .b3 a0 a1 a2 a3 a4 a5 => .chk (([a1]).length == 1) (
    .chk (a0.length == a0.length) (
      .chk (decide ((a0.length + ([a1]).length) * 16 ≤ lim) && decide (a0.length + ([a1]).length ≤ maxLen)) (
        .chk ((a0 ++ [a1]).length == (a0 ++ [a1]).length) (
          .leaf (.inr (.b1 (a0 ++ [a1]) a2 a3 (w64 (a4 + (1 : Int))) a5))))))
noncomputable def m_audit_Names (a0 : List api_Fault) : Option ByteArray := flow T_audit_Names (.b0 a0)
noncomputable def M_audit_Names : Mod U := { ts := [22], rt := 9, fn := fun x => m_audit_Names x.1, ok := by decide }
noncomputable def A_audit_Names : Nat → Option (List Nat)
  | 4 => some [3, 4, 9, 10, 11]
  | 8 => some [3, 4, 6, 9, 10, 11]
  | 9 => some [3, 4, 7, 9, 10, 11]
  | _ => none
noncomputable def mods_audit_Names : FuncId → Option (Mod U)
  | 10 => some M_strings_Join
  | _ => none
noncomputable def c_audit_Names : Code := bodyOf Tryz.f5
noncomputable def sp_audit_Names : P_audit_Names → Spot U
  | .b0 a0 => ⟨c_audit_Names, [], entryS [22] (a0, ()) 34, false⟩
  | .b1 a0 a1 a2 a3 a4 => ⟨(nav c_audit_Names [1, 1, 1, 0, 1, 0, 0, 0] []).1, (nav c_audit_Names [1, 1, 1, 0, 1, 0, 0, 0] []).2, ⟨[.und, .und, .und, .ptr 0 0 0 1, .all 1 a0.length, .und, .und, .und, .und, .sl 62 a1, .si .i64 a2, .si .i64 a3, .und, .und, .und, .und, .und, .und, .und, .und, .und, .und, .und, .und, .und, .und, .und, .und, .und, .und, .und, .und, .und, .und], [.var 79 8 (U.encS 79 a4), .row 9 a0 none]⟩, true⟩
  | .b2 a0 a1 a2 a3 a4 a5 => ⟨(nav c_audit_Names [1, 1, 1, 0, 1, 0, 0, 1, 1, 0, 0, 1, 1, 0, 1, 0] []).1, (nav c_audit_Names [1, 1, 1, 0, 1, 0, 0, 1, 1, 0, 0, 1, 1, 0, 1, 0] []).2, ⟨[.und, .und, .und, .ptr 0 0 0 1, .all 1 a0.length, .und, .ptr 2 0 0 1, .und, .und, .sl 62 a1, .si .i64 a2, .si .i64 a3, .und, .und, .und, .und, .und, .und, .und, .und, .und, .und, .und, .und, .und, .und, .und, .und, .und, .und, .und, .und, .und, .und], [.var 79 8 (U.encS 79 a4), .row 9 a0 none, .var 62 3 (U.encS 62 a5)]⟩, true⟩
  | .b3 a0 a1 a2 a3 a4 a5 => ⟨(nav c_audit_Names [1, 1, 1, 0, 1, 0, 0, 1, 1, 0, 0, 1, 1, 1] []).1, (nav c_audit_Names [1, 1, 1, 0, 1, 0, 0, 1, 1, 0, 0, 1, 1, 1] []).2, ⟨[.und, .und, .und, .ptr 0 0 0 1, .all 1 a0.length, .und, .und, .ss a1, .und, .sl 62 a2, .si .i64 a3, .si .i64 a4, .und, .und, .und, .und, .und, .und, .und, .und, .und, .und, .und, .und, .und, .und, .und, .und, .und, .und, .und, .und, .und, .und], [.var 79 8 (U.encS 79 a5), .row 9 a0 none]⟩, true⟩
theorem blk_audit_Names : ∀ p, Le.runT (EV Tryz.prog gl 5 mods_audit_Names noH) (mdlOf mods_audit_Names noH) A_audit_Names 5 Tryz.f5 0 (doneP (EV Tryz.prog gl 5 mods_audit_Names noH) Tryz.f5) 1000 (.run (sp_audit_Names p).c) (sp_audit_Names p).K (sp_audit_Names p).st (sp_audit_Names p).sk = (T_audit_Names p).map (leafOf (outP (U := U) 9) sp_audit_Names)
  | .b0 a0 => by kernel_rfl
  | .b1 a0 a1 a2 a3 a4 => by kernel_rfl
  | .b2 a0 a1 a2 a3 a4 a5 => by kernel_rfl
  | .b3 a0 a1 a2 a3 a4 a5 => by kernel_rfl
theorem ok_audit_Names : FnOK Tryz.prog B0 5 M_audit_Names := by
  refine fn_flow rfl (univ_ok _ rfl) mix_ok (fn := Tryz.f5) (c := c_audit_Names) (mods := mods_audit_Names) (hmods := noH) ?_ (fun g k m h => by cases h) Tryz.func5 (by kernel_rfl) (by kernel_rfl) (by kernel_rfl) M_audit_Names T_audit_Names sp_audit_Names blk_audit_Names (fun x => .b0 x.1) (fun x => rfl) (fun x => rfl)
  intro g m h
  unfold mods_audit_Names at h
  split at h <;> cases h
  · exact ok_strings_Join

/-! wireless/wirelessref58.Names -/
inductive P_r58_Names where
  | b0 (a0 : List api_Fault)
  | b1 (a0 : List ByteArray) (a1 : List api_Fault) (a2 : ByteArray) (a3 : Int)
  | b2 (a0 : List ByteArray) (a1 : List api_Fault) (a2 : ByteArray) (a3 : Int)
  | b3 (a0 : List ByteArray) (a1 : List api_Fault) (a2 : ByteArray) (a3 : Int)
  | b4 (a0 : List ByteArray) (a1 : List api_Fault) (a2 : ByteArray) (a3 : Int)
  | b5 (a0 : List ByteArray) (a1 : List api_Fault) (a2 : ByteArray) (a3 : Int)
noncomputable def T_r58_Names : P_r58_Names → Tr U (ByteArray ⊕ P_r58_Names)
  | .b0 a0 => .chk (([(⟨#[117, 110, 107, 110, 111, 119, 110]⟩ : ByteArray), (⟨#[111, 114, 100, 101, 114]⟩ : ByteArray), (⟨#[105, 110, 115, 116, 97, 110, 116]⟩ : ByteArray), (⟨#[115, 116, 97, 108, 101]⟩ : ByteArray), (⟨#[107, 101, 121, 115]⟩ : ByteArray), (⟨#[98, 111, 110, 100]⟩ : ByteArray), (⟨#[99, 97, 112, 116, 117, 114, 101]⟩ : ByteArray), (⟨#[116, 119, 105, 99, 101]⟩ : ByteArray)]).length == 8) (
    .leaf (.inr (.b1 ([(⟨#[117, 110, 107, 110, 111, 119, 110]⟩ : ByteArray), (⟨#[111, 114, 100, 101, 114]⟩ : ByteArray), (⟨#[105, 110, 115, 116, 97, 110, 116]⟩ : ByteArray), (⟨#[115, 116, 97, 108, 101]⟩ : ByteArray), (⟨#[107, 101, 121, 115]⟩ : ByteArray), (⟨#[98, 111, 110, 100]⟩ : ByteArray), (⟨#[99, 97, 112, 116, 117, 114, 101]⟩ : ByteArray), (⟨#[116, 119, 105, 99, 101]⟩ : ByteArray)]) a0 (⟨#[]⟩ : ByteArray) (0 : Int))))
  | .b1 a0 a1 a2 a3 => .br (decide (a3 < (↑a1.length : Int))) (
    .br (decide (a3 > (0 : Int))) (
      .chk (decide (a2.size + (⟨#[32]⟩ : ByteArray).size ≤ maxLen)) (
        .chk (a0.length == a0.length) (
          .leaf (.inr (.b2 a0 a1 (a2 ++ (⟨#[32]⟩ : ByteArray)) a3))))) (
      .chk (a0.length == a0.length) (
        .leaf (.inr (.b2 a0 a1 a2 a3))))) (
    .leaf (.inl a2))
  | .b2 a0 a1 a2 a3 => .chk (decide (0 ≤ a3 ∧ a3 < (↑a1.length : Int))) (
    .bind 62 (a1[(Int.toNat a3)]?) (fun (x1 : api_Fault) => 
      .br (decide (x1.Kind ≥ (1 : Int))) (
        .chk (decide (0 ≤ a3 ∧ a3 < (↑a1.length : Int))) (
          .bind 62 (a1[(Int.toNat a3)]?) (fun (x2 : api_Fault) => 
            .br (decide (x2.Kind ≤ (7 : Int))) (
              .chk (a0.length == a0.length) (
                .leaf (.inr (.b3 a0 a1 a2 a3)))) (
              .chk (a0.length == a0.length) (
                .leaf (.inr (.b4 a0 a1 a2 a3))))))) (
        .chk (a0.length == a0.length) (
          .leaf (.inr (.b4 a0 a1 a2 a3))))))
  | .b3 a0 a1 a2 a3 => .chk (decide (0 ≤ a3 ∧ a3 < (↑a1.length : Int))) (
    .bind 62 (a1[(Int.toNat a3)]?) (fun (x1 : api_Fault) => 
      .chk (a0.length == a0.length) (
        .chk (decide (0 ≤ x1.Kind ∧ x1.Kind < (↑a0.length : Int))) (
          .chk (a0.length == a0.length) (
            .bind 9 (a0[(Int.toNat x1.Kind)]?) (fun (x2 : ByteArray) => 
              .chk (decide (a2.size + x2.size ≤ maxLen)) (
                .chk (a0.length == a0.length) (
                  .leaf (.inr (.b5 a0 a1 (a2 ++ x2) a3))))))))))
  | .b4 a0 a1 a2 a3 => .chk (a0.length == a0.length) (
    .chk (decide (0 ≤ (0 : Int) ∧ (0 : Int) < (↑a0.length : Int))) (
      .chk (a0.length == a0.length) (
        .bind 9 (a0[(Int.toNat (0 : Int))]?) (fun (x1 : ByteArray) => 
          .chk (decide (a2.size + x1.size ≤ maxLen)) (
            .chk (a0.length == a0.length) (
              .leaf (.inr (.b5 a0 a1 (a2 ++ x1) a3))))))))
  | .b5 a0 a1 a2 a3 => .chk (a0.length == a0.length) (
    .leaf (.inr (.b1 a0 a1 a2 (w64 (a3 + (1 : Int))))))
noncomputable def m_r58_Names (a0 : List api_Fault) : Option ByteArray := flow T_r58_Names (.b0 a0)
noncomputable def M_r58_Names : Mod U := { ts := [22], rt := 9, fn := fun x => m_r58_Names x.1, ok := by decide }
noncomputable def A_r58_Names : Nat → Option (List Nat)
  | 4 => some [0, 3, 4, 5]
  | 8 => some [0, 3, 4, 5]
  | 9 => some [0, 3, 4, 5]
  | 10 => some [0, 3, 4, 5]
  | 5 => some [0, 3, 4, 5]
  | _ => none
noncomputable def mods_r58_Names : FuncId → Option (Mod U)
  | _ => none
noncomputable def c_r58_Names : Code := bodyOf Tryz.f6
noncomputable def sp_r58_Names : P_r58_Names → Spot U
  | .b0 a0 => ⟨c_r58_Names, [], entryS [22] (a0, ()) 47, false⟩
  | .b1 a0 a1 a2 a3 => ⟨(nav c_r58_Names [1, 1, 1, 0, 1, 0, 0, 0, 0] []).1, (nav c_r58_Names [1, 1, 1, 0, 1, 0, 0, 0, 0] []).2, ⟨[.sl 62 a1, .und, .und, .all 0 a0.length, .ss a2, .si .i64 a3, .und, .und, .und, .und, .und, .und, .und, .und, .und, .und, .und, .und, .und, .und, .und, .und, .und, .und, .und, .und, .und, .und, .und, .und, .und, .und, .und, .und, .und, .und, .und, .und, .und, .und, .und, .und, .und, .und, .und, .und, .und], [.row 9 a0 none]⟩, true⟩
  | .b2 a0 a1 a2 a3 => ⟨(nav c_r58_Names [1, 1, 1, 0, 1, 0, 0, 1, 0, 0, 1, 0] []).1, (nav c_r58_Names [1, 1, 1, 0, 1, 0, 0, 1, 0, 0, 1, 0] []).2, ⟨[.sl 62 a1, .und, .und, .all 0 a0.length, .ss a2, .si .i64 a3, .und, .und, .und, .und, .und, .und, .und, .und, .und, .und, .und, .und, .und, .und, .und, .und, .und, .und, .und, .und, .und, .und, .und, .und, .und, .und, .und, .und, .und, .und, .und, .und, .und, .und, .und, .und, .und, .und, .und, .und, .und], [.row 9 a0 none]⟩, true⟩
  | .b3 a0 a1 a2 a3 => ⟨(nav c_r58_Names [1, 1, 1, 0, 1, 0, 0, 1, 0, 0, 1, 1, 0] []).1, (nav c_r58_Names [1, 1, 1, 0, 1, 0, 0, 1, 0, 0, 1, 1, 0] []).2, ⟨[.sl 62 a1, .und, .und, .all 0 a0.length, .ss a2, .si .i64 a3, .und, .und, .und, .und, .und, .und, .und, .und, .und, .und, .und, .und, .und, .und, .und, .und, .und, .und, .und, .und, .und, .und, .und, .und, .und, .und, .und, .und, .und, .und, .und, .und, .und, .und, .und, .und, .und, .und, .und, .und, .und], [.row 9 a0 none]⟩, true⟩
  | .b4 a0 a1 a2 a3 => ⟨(nav c_r58_Names [1, 1, 1, 0, 1, 0, 0, 1, 0, 0, 1, 1, 1] []).1, (nav c_r58_Names [1, 1, 1, 0, 1, 0, 0, 1, 0, 0, 1, 1, 1] []).2, ⟨[.sl 62 a1, .und, .und, .all 0 a0.length, .ss a2, .si .i64 a3, .und, .und, .und, .und, .und, .und, .und, .und, .und, .und, .und, .und, .und, .und, .und, .und, .und, .und, .und, .und, .und, .und, .und, .und, .und, .und, .und, .und, .und, .und, .und, .und, .und, .und, .und, .und, .und, .und, .und, .und, .und], [.row 9 a0 none]⟩, true⟩
  | .b5 a0 a1 a2 a3 => ⟨(nav c_r58_Names [1, 1, 1, 0, 1, 0, 0, 1, 1] []).1, (nav c_r58_Names [1, 1, 1, 0, 1, 0, 0, 1, 1] []).2, ⟨[.sl 62 a1, .und, .und, .all 0 a0.length, .ss a2, .si .i64 a3, .und, .und, .und, .und, .und, .und, .und, .und, .und, .und, .und, .und, .und, .und, .und, .und, .und, .und, .und, .und, .und, .und, .und, .und, .und, .und, .und, .und, .und, .und, .und, .und, .und, .und, .und, .und, .und, .und, .und, .und, .und], [.row 9 a0 none]⟩, true⟩
theorem blk_r58_Names : ∀ p, Le.runT (EV Tryz.prog gl 6 mods_r58_Names noH) (mdlOf mods_r58_Names noH) A_r58_Names 6 Tryz.f6 0 (doneP (EV Tryz.prog gl 6 mods_r58_Names noH) Tryz.f6) 1000 (.run (sp_r58_Names p).c) (sp_r58_Names p).K (sp_r58_Names p).st (sp_r58_Names p).sk = (T_r58_Names p).map (leafOf (outP (U := U) 9) sp_r58_Names)
  | .b0 a0 => by kernel_rfl
  | .b1 a0 a1 a2 a3 => by kernel_rfl
  | .b2 a0 a1 a2 a3 => by kernel_rfl
  | .b3 a0 a1 a2 a3 => by kernel_rfl
  | .b4 a0 a1 a2 a3 => by kernel_rfl
  | .b5 a0 a1 a2 a3 => by kernel_rfl
theorem ok_r58_Names : FnOK Tryz.prog B0 6 M_r58_Names := by
  refine fn_flow rfl (univ_ok _ rfl) mix_ok (fn := Tryz.f6) (c := c_r58_Names) (mods := mods_r58_Names) (hmods := noH) ?_ (fun g k m h => by cases h) Tryz.func6 (by kernel_rfl) (by kernel_rfl) (by kernel_rfl) M_r58_Names T_r58_Names sp_r58_Names blk_r58_Names (fun x => .b0 x.1) (fun x => rfl) (fun x => rfl)
  intro g m h
  cases h

/-! wireless/wirelesslaw58.AuditNames -/
inductive P_law58_AuditNames where
  | b0 (a0 : List api_Fault)
noncomputable def T_law58_AuditNames : P_law58_AuditNames → Tr U (Bool ⊕ P_law58_AuditNames)
  | .b0 a0 => .bind 4 (m_law58_lives) (fun (x1 : Bool) => 
    .br x1 (
      .br (decide ((↑a0.length : Int) > (1000 : Int))) (
        .leaf (.inl true)) (
        .chk (([] : List api_Fault).length == 0) (
          .chk (decide ((0 + a0.length) * 24 ≤ lim) && decide (0 + a0.length ≤ maxLen)) (
            .chk ((([] : List api_Fault) ++ a0).length == (([] : List api_Fault) ++ a0).length) (
              .bind 9 (m_audit_Names (([] : List api_Fault) ++ a0)) (fun (x2 : ByteArray) => 
                .bind 9 (m_r58_Names a0) (fun (x3 : ByteArray) => 
                  .leaf (.inl (x2.toList == x3.toList))))))))) (
      .leaf (.inl false)))
noncomputable def m_law58_AuditNames (a0 : List api_Fault) : Option Bool := flow T_law58_AuditNames (.b0 a0)
noncomputable def M_law58_AuditNames : Mod U := { ts := [22], rt := 4, fn := fun x => m_law58_AuditNames x.1, ok := by decide }
noncomputable def A_law58_AuditNames : Nat → Option (List Nat)
  | _ => none
noncomputable def mods_law58_AuditNames : FuncId → Option (Mod U)
  | 4 => some M_law58_lives
  | 5 => some M_audit_Names
  | 6 => some M_r58_Names
  | _ => none
noncomputable def c_law58_AuditNames : Code := bodyOf Tryz.f3
noncomputable def sp_law58_AuditNames : P_law58_AuditNames → Spot U
  | .b0 a0 => ⟨c_law58_AuditNames, [], entryS [22] (a0, ()) 18, false⟩
theorem blk_law58_AuditNames : ∀ p, Le.runT (EV Tryz.prog gl 3 mods_law58_AuditNames noH) (mdlOf mods_law58_AuditNames noH) A_law58_AuditNames 3 Tryz.f3 0 (doneP (EV Tryz.prog gl 3 mods_law58_AuditNames noH) Tryz.f3) 1000 (.run (sp_law58_AuditNames p).c) (sp_law58_AuditNames p).K (sp_law58_AuditNames p).st (sp_law58_AuditNames p).sk = (T_law58_AuditNames p).map (leafOf (outP (U := U) 4) sp_law58_AuditNames)
  | .b0 a0 => by kernel_rfl
theorem ok_law58_AuditNames : FnOK Tryz.prog B0 3 M_law58_AuditNames := by
  refine fn_flow rfl (univ_ok _ rfl) mix_ok (fn := Tryz.f3) (c := c_law58_AuditNames) (mods := mods_law58_AuditNames) (hmods := noH) ?_ (fun g k m h => by cases h) Tryz.func3 (by kernel_rfl) (by kernel_rfl) (by kernel_rfl) M_law58_AuditNames T_law58_AuditNames sp_law58_AuditNames blk_law58_AuditNames (fun x => .b0 x.1) (fun x => rfl) (fun x => rfl)
  intro g m h
  unfold mods_law58_AuditNames at h
  split at h <;> cases h
  · exact ok_law58_lives
  · exact ok_audit_Names
  · exact ok_r58_Names

end Go.Proofs.YtlnlbmpgaghhhaaGreatDoor
