/-
  The names of any faults. No conditions but the row's own (the listed tables of the program).
-/
import Derived.Test.YtlnlbmpgaghhhaaGreatDoorRows
import Derived.Test.YtlnlbmpgaghhhaaGreatDoorQa
import Derived.OpenShut
import Derived.Test.YtlnlbmpgaghhhaaGreatDoorCards
import Derived.Test.YtlnlbmpgaghhhaaGreatDoorTie
import Derived.Test.YtlnlbmpgaghhhaaGreatDoorLd
import Derived.ProofKit
import Derived.LaidMore
import Derived.Stop.Joined
import Derived.SevenTiedAt
import Derived.Test.YtlnlbmpgaghhhaaGreatDoorAuditNamesFc
namespace Go.Proofs.YtlnlbmpgaghhhaaGreatDoor.law3
open Go Go.Proofs.YtlnlbmpgaghhhaaGreatDoor.Le Go.Proofs.YtlnlbmpgaghhhaaGreatDoor
open Go.ChangeShapes Go.WideShapes Go.ChangeAt Go.RowKit
set_option linter.unusedVariables false
set_option maxRecDepth 100000
def wf61 (x : api_Fault) : Prop := (WI .i64) x.Kind ∧ (WI .i64) x.Device ∧ (WI .i64) x.Conn ∧ True
theorem seg61 : SegRd Tryz.prog (Codec.pair (Codec.int .i64 : Codec Ty Int) (Codec.pair (Codec.int .i64 : Codec Ty Int) (Codec.pair (Codec.int .i64 : Codec Ty Int) Codec.unit))) [(0, 3), (1, 3), (2, 3)] 0 3 (fun x => wf61 (⟨x.1, x.2.1, x.2.2.1⟩)) := (SegRd.pair (off := 0) (k := 1) (CodecRd.int (t := 3) (by kernel_rfl)) (by kernel_rfl) (SegRd.pair (off := 1) (k := 1) (CodecRd.int (t := 3) (by kernel_rfl)) (by kernel_rfl) (SegRd.pair (off := 2) (k := 1) (CodecRd.int (t := 3) (by kernel_rfl)) (by kernel_rfl) (SegRd.unit rfl))))
theorem rd61 (t : Nat) {dd : TypeDesc} (ht : Tryz.prog.underlying t = some dd) (hs : (segsOf Tryz.prog dd = some [(0, 3), (1, 3), (2, 3)]) ∧ Tryz.prog.cellsOf t = 3) : CodecRd Tryz.prog cd61 t wf61 := (CodecRd.row ht hs.1 hs.2 seg61).iso (fun _ => rfl)
def WfL (x : Args U M_law58_AuditNames.ts) : Prop := (WL wf61) x.1 ∧ True
theorem true_law58_AuditNames (x : Args U M_law58_AuditNames.ts) (h : WfL x) : M_law58_AuditNames.fn x = some true := t_law58_AuditNames x.1
theorem own : ownKnob Tryz.prog.godebug = none := by kernel_rfl
theorem laid : laidOutB Tryz.prog = true := by kernel_rfl
def laidL : List (String × DataW Unit) := [("wireless/address.prefixes", Rows.laid_wireless_address_prefixes), ("wireless/crc.sums", Rows.laid_wireless_crc_sums)]
theorem of_laid {W : World} (h : laidMetH Tryz.prog laidL W) : GlobOK B0 (bare (allFz W)) W := fun g r hg => by cases hg
theorem door_met (os : Os) (args : Array Value) : laidMetH Tryz.prog laidL ((World.doorLaid Tryz.prog 400 os).forCall (fun _ _ => 0) ⟨#[], args, []⟩).memory :=
  laidMetH_of_parts3 (fuel := 8) (laidMet_of_run' 8 (by kernel_rfl) (by kernel_rfl)) (by kernel_rfl) (by kernel_rfl)
theorem lifted (os : Os) (started : os.Started) (H : Type) (enc : TypeId × Value → H) :
    ReturnsInHanded {} Tryz.checked os 3 .any (fun w args => (Rows.auditNamesSpec.pre enc Tryz.prog Tryz.f3 [] false w args ∧ laidMetH Tryz.prog laidL w) ∧ sizedMet enc Tryz.prog Tryz.f3 (OpenSpec.ofChange Rows.auditNamesSpec) false w args)
      (Rows.auditNamesSpec.post enc Tryz.prog Tryz.f3 false true false false) := by
  refine returnsInHanded_of_change_and (C := Tryz.checked) (X := fun w _ => laidMetH Tryz.prog laidL w) (fun _ _ _ hh h => h.of_heap hh) own started (by kernel_rfl) Tryz.func3
    (ChangeSpec.witness_shaped (enc := enc) (C := Tryz.checked) (os := os) (X := fun w _ => laidMetH Tryz.prog laidL w) false (World.doorLaid Tryz.prog 400 os) #[.slice none 0 0] 8 rfl (World.shaped_of_RefB (by kernel_rfl) (by kernel_rfl)) (by kernel_rfl) (by kernel_rfl) (by kernel_rfl) (door_met os _)) ?_
  intro W base args ds gs before hval hW _ _ hL _
  have hgs : gs.length = 0 := by
    obtain ⟨p, q, hA, hV, _⟩ := hW
    cases gs with
    | nil => rfl
    | cons g gs => exact hV.elim
  have hds : ds.length = 1 := by
    obtain ⟨p, q, hA, hV, _⟩ := hW
    exact trodAll_len hA
  exact law_ok (E0 := B0) (m := M_law58_AuditNames) (fn := Tryz.f3) (tb := 4) (d := 12) ok_law58_AuditNames (AllRd.cons (TyRd.ones (U := U) (t := 22) (c := (Codec.list 62 3 (fun (a : api_Fault) => .agg (cd61.encV a)) : Codec Ty (List (Ty 62)))) (wf := (WL wf61)) (by kernel_rfl) (CodecRd.rows (t := 22) (e := 62) (by kernel_rfl) (by kernel_rfl) (by kernel_rfl) (rd61 62 Tryz.underlying62 ⟨by kernel_rfl, by kernel_rfl⟩)) (fun _ => rfl)) AllRd.nil) rfl (by decide +kernel) laid (by decide +kernel) rfl (by kernel_rfl) (tt := true) rfl true_law58_AuditNames
    (fun ds gs h1 h2 => by
      match ds, gs, h1, h2 with
      | [d0], [], _, _ => exact ⟨rfl, rfl, rfl⟩)
    (fun j t v h1 h2 => ⟨_, _, hval j t v h1 h2⟩) hW (of_laid hL) (fun W' _ pv h _ sp _ => by cases gs with | nil => exact h | cons g gs => exact h.elim) hds hgs
theorem over : Rows.auditNamesRow.holds Tryz.pinned (OpenSpec.ofChange Rows.auditNamesSpec) :=
  OpenClaim.holds_of_wide 3 Tryz.f3 rfl rfl rfl rfl rfl rfl rfl ⟨rfl, rfl, rfl, rfl, rfl⟩ rfl rfl rfl rfl rfl (by as_aux_lemma => kernel_rfl) Tryz.func3 closed
    (of_decide_eq_true (by as_aux_lemma => kernel_rfl)) (by unfold Func.isWrapper; first | (rw [if_pos (by decide +kernel)]; kernel_rfl) | (rw [if_neg (by decide +kernel)]; exact ⟨rfl, rfl⟩))
    (fun os started H enc _ => lifted os started H enc)
theorem card1 : Rows.auditNamesRow.wfByText (OpenSpec.ofChange Rows.auditNamesSpec) = true := by kernel_rfl
theorem card2 : Tryz.prog.mainIs = some (Rows.auditNamesCard.stood.harness.1, Rows.auditNamesCard.stood.harness.2.toList) := by kernel_rfl
theorem card3 : true = Tryz.prog.looks [] := by kernel_rfl
theorem card4 : false = Rows.auditNamesRow.goesBy Tryz.prog := by kernel_rfl
theorem card5 : (Tryz.f3.params.toList.all fun u => !Tryz.prog.wantsStandIn u) = true := by kernel_rfl
theorem card6 : Tryz.prog.funcNamed "wireless/wirelesslaw58.AuditNames" = some 3 := by kernel_rfl
theorem card7 (f : FuncId) (fn : Func) (hf : Tryz.prog.funcNamed Rows.auditNamesRow.func = some f) (hfn : Tryz.prog.funcs[f]? = some fn) : true = Tryz.prog.looks [] ∧ ∀ (j : Nat) t, fn.params[j]? = some t → Tryz.prog.wantsStandIn t = false := by
  obtain rfl : f = 3 := Option.some.inj (card6.symm.trans hf) |>.symm
  obtain rfl : fn = Tryz.f3 := (Option.some.inj (Tryz.func3.symm.trans hfn)).symm
  refine ⟨card3, fun j t ht => ?_⟩
  have hm : t ∈ Tryz.f3.params.toList := Array.mem_toList_iff.2 (Array.mem_of_getElem? ht)
  have h : (!Tryz.prog.wantsStandIn t) = true := List.all_eq_true.1 card5 t hm
  cases hw : Tryz.prog.wantsStandIn t with
  | false => rfl
  | true => rw [hw] at h; cases h
theorem proved : Rows.AuditNamesCardSaid :=
  Claim7.holds_tied_plain_at .later [] [.data, .data] true Rows.auditNamesCard.stood.harness true over (fun _ h => by cases h) card1 (fun _ h => by cases h) auditNames_row_tie rfl ⟨rfl, rfl⟩ card2 rfl card7 card4
#print axioms proved
end Go.Proofs.YtlnlbmpgaghhhaaGreatDoor.law3
