/-
  The faults of a mesh with any notes. No conditions but the ranges of the arguments' types.
-/
import Derived.Test.YtkepnndakhpgoaaGreatDoorRows
import Derived.Test.YtkepnndakhpgoaaGreatDoorQm
import Derived.OpenShut
import Derived.Test.YtkepnndakhpgoaaGreatDoorAuditMeshesFc
import Derived.Test.YtkepnndakhpgoaaGreatDoorCards
import Derived.Test.YtkepnndakhpgoaaGreatDoorTie
import Derived.Test.YtkepnndakhpgoaaGreatDoorL6
import Derived.ProofKit
import Derived.LaidMore
import Derived.Stop.Joined
import Derived.SevenTiedAt
namespace Go.Proofs.YtkepnndakhpgoaaGreatDoor.law3
open Go Go.Proofs.YtkepnndakhpgoaaGreatDoor.Le Go.Proofs.YtkepnndakhpgoaaGreatDoor
open Go.ChangeShapes Go.WideShapes Go.ChangeAt Go.RowKit
set_option linter.unusedVariables false
set_option maxRecDepth 100000
def wf81 (x : api_SeqID) : Prop := (WI .u16) x.Src ∧ (WI .u32) x.IV ∧ (WI .u32) x.Seq ∧ True
theorem seg81 : SegRd Tryz.prog (Codec.pair cu16 (Codec.pair cu32 (Codec.pair cu32 Codec.unit))) [(0, 41), (1, 34), (2, 34)] 0 3 (fun x => wf81 (⟨x.1, x.2.1, x.2.2.1⟩)) := (SegRd.pair (off := 0) (k := 1) (CodecRd.int (t := 41) (by kernel_rfl)) (by kernel_rfl) (SegRd.pair (off := 1) (k := 1) (CodecRd.int (t := 34) (by kernel_rfl)) (by kernel_rfl) (SegRd.pair (off := 2) (k := 1) (CodecRd.int (t := 34) (by kernel_rfl)) (by kernel_rfl) (SegRd.unit rfl))))
theorem rd81 (t : Nat) {dd : TypeDesc} (ht : Tryz.prog.underlying t = some dd) (hs : (segsOf Tryz.prog dd = some [(0, 41), (1, 34), (2, 34)]) ∧ Tryz.prog.cellsOf t = 3) : CodecRd Tryz.prog cd81 t wf81 := (CodecRd.row ht hs.1 hs.2 seg81).iso (fun _ => rfl)
def wf83 (x : api_Access) : Prop := (WI .u16) x.Src ∧ (WI .u16) x.Dst ∧ WB x.App ∧ (WI .i64) x.TTL ∧ wf81 x.Seq ∧ (WL (WI .u8)) x.Bytes ∧ True
theorem seg83 : SegRd Tryz.prog (Codec.pair cu16 (Codec.pair cu16 (Codec.pair cbo (Codec.pair ci64 (Codec.pair cd81 (Codec.pair (Codec.list 5 1 (fun (a : Int) => cu8.oneV a) : Codec Ty (List (Ty 5))) Codec.unit)))))) [(0, 41), (1, 41), (2, 4), (3, 3), (4, 82), (7, 65)] 0 8 (fun x => wf83 (⟨x.1, x.2.1, x.2.2.1, x.2.2.2.1, x.2.2.2.2.1, x.2.2.2.2.2.1⟩)) := (SegRd.pair (off := 0) (k := 1) (CodecRd.int (t := 41) (by kernel_rfl)) (by kernel_rfl) (SegRd.pair (off := 1) (k := 1) (CodecRd.int (t := 41) (by kernel_rfl)) (by kernel_rfl) (SegRd.pair (off := 2) (k := 1) (CodecRd.bool (t := 4) (by kernel_rfl)) (by kernel_rfl) (SegRd.pair (off := 3) (k := 1) (CodecRd.int (t := 3) (by kernel_rfl)) (by kernel_rfl) (SegRd.pair (off := 4) (k := 3) (rd81 82 Tryz.underlying82 ⟨by kernel_rfl, by kernel_rfl⟩) (by kernel_rfl) (SegRd.pair (off := 7) (k := 1) (CodecRd.ones (t := 65) (e := 5) (by kernel_rfl) (by kernel_rfl) (by kernel_rfl) (CodecRd.int (t := 5) (by kernel_rfl))) (by kernel_rfl) (SegRd.unit rfl)))))))
theorem rd83 (t : Nat) {dd : TypeDesc} (ht : Tryz.prog.underlying t = some dd) (hs : (segsOf Tryz.prog dd = some [(0, 41), (1, 41), (2, 4), (3, 3), (4, 82), (7, 65)]) ∧ Tryz.prog.cellsOf t = 8) : CodecRd Tryz.prog cd83 t wf83 := (CodecRd.row ht hs.1 hs.2 seg83).iso (fun _ => rfl)
def wf85 (x : api_MeshEvent) : Prop := (WI .i64) x.Kind ∧ wf83 x.Access ∧ (WI .u16) x.Peer ∧ (WI .u64) x.Number ∧ True
theorem seg85 : SegRd Tryz.prog (Codec.pair ci64 (Codec.pair cd83 (Codec.pair cu16 (Codec.pair cu64 Codec.unit)))) [(0, 3), (1, 84), (9, 41), (10, 37)] 0 11 (fun x => wf85 (⟨x.1, x.2.1, x.2.2.1, x.2.2.2.1⟩)) := (SegRd.pair (off := 0) (k := 1) (CodecRd.int (t := 3) (by kernel_rfl)) (by kernel_rfl) (SegRd.pair (off := 1) (k := 8) (rd83 84 Tryz.underlying84 ⟨by kernel_rfl, by kernel_rfl⟩) (by kernel_rfl) (SegRd.pair (off := 9) (k := 1) (CodecRd.int (t := 41) (by kernel_rfl)) (by kernel_rfl) (SegRd.pair (off := 10) (k := 1) (CodecRd.int (t := 37) (by kernel_rfl)) (by kernel_rfl) (SegRd.unit rfl)))))
theorem rd85 (t : Nat) {dd : TypeDesc} (ht : Tryz.prog.underlying t = some dd) (hs : (segsOf Tryz.prog dd = some [(0, 3), (1, 84), (9, 41), (10, 37)]) ∧ Tryz.prog.cellsOf t = 11) : CodecRd Tryz.prog cd85 t wf85 := (CodecRd.row ht hs.1 hs.2 seg85).iso (fun _ => rfl)
def wf87 (x : api_MeshNote) : Prop := (WI .i64) x.Node ∧ (WI .i64) x.Time ∧ wf85 x.Event ∧ True
theorem seg87 : SegRd Tryz.prog (Codec.pair ci64 (Codec.pair ci64 (Codec.pair cd85 Codec.unit))) [(0, 3), (1, 3), (2, 86)] 0 13 (fun x => wf87 (⟨x.1, x.2.1, x.2.2.1⟩)) := (SegRd.pair (off := 0) (k := 1) (CodecRd.int (t := 3) (by kernel_rfl)) (by kernel_rfl) (SegRd.pair (off := 1) (k := 1) (CodecRd.int (t := 3) (by kernel_rfl)) (by kernel_rfl) (SegRd.pair (off := 2) (k := 11) (rd85 86 Tryz.underlying86 ⟨by kernel_rfl, by kernel_rfl⟩) (by kernel_rfl) (SegRd.unit rfl))))
theorem rd87 (t : Nat) {dd : TypeDesc} (ht : Tryz.prog.underlying t = some dd) (hs : (segsOf Tryz.prog dd = some [(0, 3), (1, 3), (2, 86)]) ∧ Tryz.prog.cellsOf t = 13) : CodecRd Tryz.prog cd87 t wf87 := (CodecRd.row ht hs.1 hs.2 seg87).iso (fun _ => rfl)
def WfL (x : Args U M_law58_AuditMeshes.ts) : Prop := (WI .i64) x.1 ∧ (WL wf87) x.2.1 ∧ True
theorem true_law58_AuditMeshes (x : Args U M_law58_AuditMeshes.ts) (h : WfL x) : M_law58_AuditMeshes.fn x = some true := t_law58_AuditMeshes x.1 x.2.1
theorem own : ownKnob Tryz.prog.godebug = none := by kernel_rfl
theorem laid : laidOutB Tryz.prog = true := by kernel_rfl
def laidL : List (String × DataW Unit) := [("wireless/address.prefixes", Rows.laid_wireless_address_prefixes), ("wireless/crc.sums", Rows.laid_wireless_crc_sums)]
theorem of_laid {W : World} (h : laidMetH Tryz.prog laidL W) : GlobOK B0 (bare (allFz W)) W := fun g r hg => by cases hg
theorem door_met (os : Os) (args : Array Value) : laidMetH Tryz.prog laidL ((World.doorLaid Tryz.prog 400 os).forCall (fun _ _ => 0) ⟨#[], args, []⟩).memory :=
  laidMetH_of_parts3 (fuel := 8) (laidMet_of_run' 8 (by kernel_rfl) (by kernel_rfl)) (by kernel_rfl) (by kernel_rfl)
theorem lifted (os : Os) (started : os.Started) (H : Type) (enc : TypeId × Value → H) :
    ReturnsInHanded {} Tryz.checked os 3 .any (fun w args => (Rows.auditMeshesSpec.pre enc Tryz.prog Tryz.f3 [] false w args ∧ laidMetH Tryz.prog laidL w) ∧ sizedMet enc Tryz.prog Tryz.f3 (OpenSpec.ofChange Rows.auditMeshesSpec) false w args)
      (Rows.auditMeshesSpec.post enc Tryz.prog Tryz.f3 false true false false) := by
  refine returnsInHanded_of_change_and (C := Tryz.checked) (X := fun w _ => laidMetH Tryz.prog laidL w) (fun _ _ _ hh h => h.of_heap hh) own started (by kernel_rfl) Tryz.func3
    (ChangeSpec.witness_shaped (enc := enc) (C := Tryz.checked) (os := os) (X := fun w _ => laidMetH Tryz.prog laidL w) false (World.doorLaid Tryz.prog 400 os) #[.int .i64 0, .slice none 0 0] 8 rfl (World.shaped_of_RefB (by kernel_rfl) (by kernel_rfl)) (by kernel_rfl) (by kernel_rfl) (by kernel_rfl) (door_met os _)) ?_
  intro W base args ds gs before hval hW _ _ hL _
  have hgs : gs.length = 0 := by
    obtain ⟨p, q, hA, hV, _⟩ := hW
    cases gs with
    | nil => rfl
    | cons g gs => exact hV.elim
  have hds : ds.length = 2 := by
    obtain ⟨p, q, hA, hV, _⟩ := hW
    exact trodAll_len hA
  exact law_ok (E0 := B0) (m := M_law58_AuditMeshes) (fn := Tryz.f3) (tb := 4) (d := 12) ok_law58_AuditMeshes (AllRd.cons (TyRd.ones (U := U) (t := 3) (c := ci64) (wf := (WI .i64)) (by kernel_rfl) (CodecRd.int (t := 3) (by kernel_rfl)) (fun _ => rfl)) (AllRd.cons (TyRd.ones (U := U) (t := 22) (c := (Codec.list 88 13 (fun (a : api_MeshNote) => .agg (cd87.encV a)) : Codec Ty (List (Ty 88)))) (wf := (WL wf87)) (by kernel_rfl) (CodecRd.rows (t := 22) (e := 88) (by kernel_rfl) (by kernel_rfl) (by kernel_rfl) (rd87 88 Tryz.underlying88 ⟨by kernel_rfl, by kernel_rfl⟩)) (fun _ => rfl)) AllRd.nil)) rfl (by decide +kernel) laid (by decide +kernel) rfl (by kernel_rfl) (tt := true) rfl true_law58_AuditMeshes
    (fun ds gs h1 h2 => by
      match ds, gs, h1, h2 with
      | [d0, d1], [], _, _ => exact ⟨rfl, rfl, rfl⟩)
    (fun j t v h1 h2 => ⟨_, _, hval j t v h1 h2⟩) hW (of_laid hL) (fun W' _ pv h _ sp _ => by cases gs with | nil => exact h | cons g gs => exact h.elim) hds hgs
theorem over : Rows.auditMeshesRow.holds Tryz.pinned (OpenSpec.ofChange Rows.auditMeshesSpec) :=
  OpenClaim.holds_of_wide 3 Tryz.f3 rfl rfl rfl rfl rfl rfl rfl ⟨rfl, rfl, rfl, rfl, rfl⟩ rfl rfl rfl rfl rfl (by as_aux_lemma => kernel_rfl) Tryz.func3 closed
    (of_decide_eq_true (by as_aux_lemma => kernel_rfl)) (by unfold Func.isWrapper; first | (rw [if_pos (by decide +kernel)]; kernel_rfl) | (rw [if_neg (by decide +kernel)]; exact ⟨rfl, rfl⟩))
    (fun os started H enc _ => lifted os started H enc)
theorem card1 : Rows.auditMeshesRow.wfByText (OpenSpec.ofChange Rows.auditMeshesSpec) = true := by kernel_rfl
theorem card2 : Tryz.prog.mainIs = some (Rows.auditMeshesCard.stood.harness.1, Rows.auditMeshesCard.stood.harness.2.toList) := by kernel_rfl
theorem card3 : true = Tryz.prog.looks [] := by kernel_rfl
theorem card4 : false = Rows.auditMeshesRow.goesBy Tryz.prog := by kernel_rfl
theorem card5 : (Tryz.f3.params.toList.all fun u => !Tryz.prog.wantsStandIn u) = true := by kernel_rfl
theorem card6 : Tryz.prog.funcNamed "wireless/wirelesslaw58.AuditMeshes" = some 3 := by kernel_rfl
theorem card7 (f : FuncId) (fn : Func) (hf : Tryz.prog.funcNamed Rows.auditMeshesRow.func = some f) (hfn : Tryz.prog.funcs[f]? = some fn) : true = Tryz.prog.looks [] ∧ ∀ (j : Nat) t, fn.params[j]? = some t → Tryz.prog.wantsStandIn t = false := by
  obtain rfl : f = 3 := Option.some.inj (card6.symm.trans hf) |>.symm
  obtain rfl : fn = Tryz.f3 := (Option.some.inj (Tryz.func3.symm.trans hfn)).symm
  refine ⟨card3, fun j t ht => ?_⟩
  have hm : t ∈ Tryz.f3.params.toList := Array.mem_toList_iff.2 (Array.mem_of_getElem? ht)
  have h : (!Tryz.prog.wantsStandIn t) = true := List.all_eq_true.1 card5 t hm
  cases hw : Tryz.prog.wantsStandIn t with
  | false => rfl
  | true => rw [hw] at h; cases h
theorem proved : Rows.AuditMeshesCardSaid :=
  Claim7.holds_tied_plain_at .later [] [.data, .data] true Rows.auditMeshesCard.stood.harness true over (fun _ h => by cases h) card1 (fun _ h => by cases h) auditMeshes_row_tie rfl ⟨rfl, rfl⟩ card2 rfl card7 card4
#print axioms proved
end Go.Proofs.YtkepnndakhpgoaaGreatDoor.law3
