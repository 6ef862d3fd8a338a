/-
  Any new side, its channel, its window, and whether it skips. No conditions but the row's own (the listed table of the program).
-/
import Derived.Test.YtjodhcdmhobmoaaGreatDoorRows
import Derived.Test.YtjodhcdmhobmoaaGreatDoorPx
import Derived.OpenShut
import Derived.Test.YtjodhcdmhobmoaaGreatDoorCards
import Derived.Test.YtjodhcdmhobmoaaGreatDoorTie
import Derived.Test.YtjodhcdmhobmoaaGreatDoorLd
import Derived.ProofKit
import Derived.LaidMore
import Derived.Stop.Joined
import Derived.SevenTiedAt
import Derived.Test.YtjodhcdmhobmoaaGreatDoorLinkMakesFc
namespace Go.Proofs.YtjodhcdmhobmoaaGreatDoor.law3
open Go Go.Proofs.YtjodhcdmhobmoaaGreatDoor.Le Go.Proofs.YtjodhcdmhobmoaaGreatDoor
open Go.ChangeShapes Go.WideShapes Go.ChangeAt Go.RowKit
set_option linter.unusedVariables false
set_option maxRecDepth 100000
def wf23 (x : api_Update) : Prop := (WI .i64) x.WinSize ∧ (WI .i64) x.WinOffset ∧ (WI .i64) x.Interval ∧ (WI .i64) x.Latency ∧ (WI .i64) x.Timeout ∧ True
theorem seg23 : SegRd Tryz.prog (Codec.pair (Codec.int .i64 : Codec Ty Int) (Codec.pair (Codec.int .i64 : Codec Ty Int) (Codec.pair (Codec.int .i64 : Codec Ty Int) (Codec.pair (Codec.int .i64 : Codec Ty Int) (Codec.pair (Codec.int .i64 : Codec Ty Int) Codec.unit))))) [(0, 3), (1, 3), (2, 3), (3, 3), (4, 3)] 0 5 (fun x => wf23 (⟨x.1, x.2.1, x.2.2.1, x.2.2.2.1, x.2.2.2.2.1⟩)) := (SegRd.pair (off := 0) (k := 1) (CodecRd.int (t := 3) (by kernel_rfl)) (by kernel_rfl) (SegRd.pair (off := 1) (k := 1) (CodecRd.int (t := 3) (by kernel_rfl)) (by kernel_rfl) (SegRd.pair (off := 2) (k := 1) (CodecRd.int (t := 3) (by kernel_rfl)) (by kernel_rfl) (SegRd.pair (off := 3) (k := 1) (CodecRd.int (t := 3) (by kernel_rfl)) (by kernel_rfl) (SegRd.pair (off := 4) (k := 1) (CodecRd.int (t := 3) (by kernel_rfl)) (by kernel_rfl) (SegRd.unit rfl))))))
theorem rd23 (t : Nat) {dd : TypeDesc} (ht : Tryz.prog.underlying t = some dd) (hs : (segsOf Tryz.prog dd = some [(0, 3), (1, 3), (2, 3), (3, 3), (4, 3)]) ∧ Tryz.prog.cellsOf t = 5) : CodecRd Tryz.prog cd23 t wf23 := (CodecRd.row ht hs.1 hs.2 seg23).iso (fun _ => rfl)
def wf27 (x : api_ConnParams) : Prop := (WI .u32) x.Access ∧ (WI .u32) x.Init ∧ wf23 x.Update ∧ (WI .u64) x.Map ∧ (WI .i64) x.Hop ∧ (WI .i64) x.PPM ∧ (WI .i64) x.Algorithm ∧ True
theorem seg27 : SegRd Tryz.prog (Codec.pair (Codec.int .u32 : Codec Ty Int) (Codec.pair (Codec.int .u32 : Codec Ty Int) (Codec.pair cd23 (Codec.pair (Codec.int .u64 : Codec Ty Int) (Codec.pair (Codec.int .i64 : Codec Ty Int) (Codec.pair (Codec.int .i64 : Codec Ty Int) (Codec.pair (Codec.int .i64 : Codec Ty Int) Codec.unit))))))) [(0, 22), (1, 22), (2, 24), (7, 26), (8, 3), (9, 3), (10, 3)] 0 11 (fun x => wf27 (⟨x.1, x.2.1, x.2.2.1, x.2.2.2.1, x.2.2.2.2.1, x.2.2.2.2.2.1, x.2.2.2.2.2.2.1⟩)) := (SegRd.pair (off := 0) (k := 1) (CodecRd.int (t := 22) (by kernel_rfl)) (by kernel_rfl) (SegRd.pair (off := 1) (k := 1) (CodecRd.int (t := 22) (by kernel_rfl)) (by kernel_rfl) (SegRd.pair (off := 2) (k := 5) (rd23 24 Tryz.underlying24 ⟨by kernel_rfl, by kernel_rfl⟩) (by kernel_rfl) (SegRd.pair (off := 7) (k := 1) (CodecRd.int (t := 26) (by kernel_rfl)) (by kernel_rfl) (SegRd.pair (off := 8) (k := 1) (CodecRd.int (t := 3) (by kernel_rfl)) (by kernel_rfl) (SegRd.pair (off := 9) (k := 1) (CodecRd.int (t := 3) (by kernel_rfl)) (by kernel_rfl) (SegRd.pair (off := 10) (k := 1) (CodecRd.int (t := 3) (by kernel_rfl)) (by kernel_rfl) (SegRd.unit rfl))))))))
theorem rd27 (t : Nat) {dd : TypeDesc} (ht : Tryz.prog.underlying t = some dd) (hs : (segsOf Tryz.prog dd = some [(0, 22), (1, 22), (2, 24), (7, 26), (8, 3), (9, 3), (10, 3)]) ∧ Tryz.prog.cellsOf t = 11) : CodecRd Tryz.prog cd27 t wf27 := (CodecRd.row ht hs.1 hs.2 seg27).iso (fun _ => rfl)
def WfL (x : Args U M_law30_LinkMakes.ts) : Prop := (WI .i64) x.1 ∧ wf27 x.2.1 ∧ (WI .i64) x.2.2.1 ∧ (WI .u64) x.2.2.2.1 ∧ (WI .u64) x.2.2.2.2.1 ∧ (WI .i64) x.2.2.2.2.2.1 ∧ True
theorem wi32 {a : Int} (h : WI .u32 a) : 0 ≤ a ∧ a < 4294967296 := by
  simp only [WI, Lit.wf, Bool.and_eq_true, decide_eq_true_eq] at h
  have h1 : (IntKind.u32.min) = 0 := rfl
  have h2 : (IntKind.u32.max) = 4294967295 := rfl
  rw [h1, h2] at h
  omega
theorem wi64 {a : Int} (h : WI .u64 a) : 0 ≤ a ∧ a < 18446744073709551616 := by
  simp only [WI, Lit.wf, Bool.and_eq_true, decide_eq_true_eq] at h
  have h1 : (IntKind.u64.min) = 0 := rfl
  have h2 : (IntKind.u64.max) = 18446744073709551615 := rfl
  rw [h1, h2] at h
  omega
theorem true_law30_LinkMakes (x : Args U M_law30_LinkMakes.ts) (h : WfL x) : M_law30_LinkMakes.fn x = some true := by
  have hp := h.2.1
  exact t_law30_LinkMakes x.1 x.2.1 ⟨wi32 hp.1, wi64 hp.2.2.2.1⟩ x.2.2.1 x.2.2.2.1 x.2.2.2.2.1 x.2.2.2.2.2.1
theorem own : ownKnob Tryz.prog.godebug = none := by kernel_rfl
theorem laid : laidOutB Tryz.prog = true := by kernel_rfl
def laidL : List (String × DataW Unit) := [("wireless/crc.sums", Rows.laid_wireless_crc_sums)]
theorem of_laid {W : World} (h : laidMetH Tryz.prog laidL W) : GlobOK B0 (bare (allFz W)) W := fun g r hg => by
  by_cases h0 : g = 0
  · subst h0
    have e : r = (([0, 1788928, 3577856, 3003392, 7155712, 7764992, 6006784, 4252672, 14311424, 12659712, 15529984, 16233472, 12013568, 11279360, 8505344, 10126336] : List Int)).map (fun n => V.lit (.int .u32 n)) := (Option.some.inj ((show gl 0 = some _ from rfl).symm.trans hg)).symm
    subst e
    exact glob_ints (P := Tryz.prog) (ks := ([0, 1788928, 3577856, 3003392, 7155712, 7764992, 6006784, 4252672, 14311424, 12659712, 15529984, 16233472, 12013568, 11279360, 8505344, 10126336] : List Int)) (tA := 296) (e := 22) (ik := .u32) (name := "wireless/crc.sums") (by kernel_rfl) (by kernel_rfl) (by kernel_rfl) (by kernel_rfl) (by kernel_rfl) (by kernel_rfl) h
  · exact absurd (hg.symm.trans (show gl g = none from if_neg h0)) (by simp)
theorem door_met (os : Os) (args : Array Value) : laidMetH Tryz.prog laidL ((World.doorLaid Tryz.prog 400 os).forCall (fun _ _ => 0) ⟨#[], args, []⟩).memory :=
  laidMetH_of_parts3 (fuel := 8) (laidMet_of_run' 8 (by kernel_rfl) (by kernel_rfl)) (by kernel_rfl) (by kernel_rfl)
theorem lifted (os : Os) (started : os.Started) (H : Type) (enc : TypeId × Value → H) :
    ReturnsInHanded {} Tryz.checked os 3 .any (fun w args => (Rows.linkMakesSpec.pre enc Tryz.prog Tryz.f3 [] false w args ∧ laidMetH Tryz.prog laidL w) ∧ sizedMet enc Tryz.prog Tryz.f3 (OpenSpec.ofChange Rows.linkMakesSpec) false w args)
      (Rows.linkMakesSpec.post enc Tryz.prog Tryz.f3 false true false false) := by
  refine returnsInHanded_of_change_and (C := Tryz.checked) (X := fun w _ => laidMetH Tryz.prog laidL w) (fun _ _ _ hh h => h.of_heap hh) own started (by kernel_rfl) Tryz.func3
    (ChangeSpec.witness_shaped (enc := enc) (C := Tryz.checked) (os := os) (X := fun w _ => laidMetH Tryz.prog laidL w) false (World.doorLaid Tryz.prog 400 os) #[.int .i64 0, .agg #[.int .u32 0, .int .u32 0, .int .i64 0, .int .i64 0, .int .i64 0, .int .i64 0, .int .i64 0, .int .u64 0, .int .i64 0, .int .i64 0, .int .i64 0], .int .i64 0, .int .u64 0, .int .u64 0, .int .i64 0] 8 rfl (World.shaped_of_RefB (by kernel_rfl) (by kernel_rfl)) (by kernel_rfl) (by kernel_rfl) (by kernel_rfl) (door_met os _)) ?_
  intro W base args ds gs before hval hW _ _ hL _
  have hgs : gs.length = 0 := by
    obtain ⟨p, q, hA, hV, _⟩ := hW
    cases gs with
    | nil => rfl
    | cons g gs => exact hV.elim
  have hds : ds.length = 6 := by
    obtain ⟨p, q, hA, hV, _⟩ := hW
    exact trodAll_len hA
  exact law_ok (E0 := B0) (m := M_law30_LinkMakes) (fn := Tryz.f3) (tb := 4) (d := 12) ok_law30_LinkMakes (AllRd.cons (TyRd.ones (U := U) (t := 3) (c := (Codec.int .i64 : Codec Ty Int)) (wf := (WI .i64)) (by kernel_rfl) (CodecRd.int (t := 3) (by kernel_rfl)) (fun _ => rfl)) (AllRd.cons (TyRd.rows (U := U) (t := 28) (c := cd27) (wf := wf27) (by kernel_rfl) (rd27 28 Tryz.underlying28 ⟨by kernel_rfl, by kernel_rfl⟩) (fun _ => rfl)) (AllRd.cons (TyRd.ones (U := U) (t := 3) (c := (Codec.int .i64 : Codec Ty Int)) (wf := (WI .i64)) (by kernel_rfl) (CodecRd.int (t := 3) (by kernel_rfl)) (fun _ => rfl)) (AllRd.cons (TyRd.ones (U := U) (t := 29) (c := (Codec.int .u64 : Codec Ty Int)) (wf := (WI .u64)) (by kernel_rfl) (CodecRd.int (t := 29) (by kernel_rfl)) (fun _ => rfl)) (AllRd.cons (TyRd.ones (U := U) (t := 25) (c := (Codec.int .u64 : Codec Ty Int)) (wf := (WI .u64)) (by kernel_rfl) (CodecRd.int (t := 25) (by kernel_rfl)) (fun _ => rfl)) (AllRd.cons (TyRd.ones (U := U) (t := 3) (c := (Codec.int .i64 : Codec Ty Int)) (wf := (WI .i64)) (by kernel_rfl) (CodecRd.int (t := 3) (by kernel_rfl)) (fun _ => rfl)) AllRd.nil)))))) rfl (by decide +kernel) laid (by decide +kernel) rfl (by kernel_rfl) (tt := true) rfl true_law30_LinkMakes
    (fun ds gs h1 h2 => by
      match ds, gs, h1, h2 with
      | [d0, d1, d2, d3, d4, d5], [], _, _ => exact ⟨rfl, rfl, rfl⟩)
    (fun j t v h1 h2 => ⟨_, _, hval j t v h1 h2⟩) hW (of_laid hL) (fun W' _ pv h _ sp _ => by cases gs with | nil => exact h | cons g gs => exact h.elim) hds hgs
theorem over : Rows.linkMakesRow.holds Tryz.pinned (OpenSpec.ofChange Rows.linkMakesSpec) :=
  OpenClaim.holds_of_wide 3 Tryz.f3 rfl rfl rfl rfl rfl rfl rfl ⟨rfl, rfl, rfl, rfl, rfl⟩ rfl rfl rfl rfl rfl (by as_aux_lemma => kernel_rfl) Tryz.func3 closed
    (of_decide_eq_true (by as_aux_lemma => kernel_rfl)) (by unfold Func.isWrapper; first | (rw [if_pos (by decide +kernel)]; kernel_rfl) | (rw [if_neg (by decide +kernel)]; exact ⟨rfl, rfl⟩))
    (fun os started H enc _ => lifted os started H enc)
theorem card1 : Rows.linkMakesRow.wfByText (OpenSpec.ofChange Rows.linkMakesSpec) = true := by kernel_rfl
theorem card2 : Tryz.prog.mainIs = some (Rows.linkMakesCard.stood.harness.1, Rows.linkMakesCard.stood.harness.2.toList) := by kernel_rfl
theorem card3 : false = Tryz.prog.looks [] := by kernel_rfl
theorem card4 : false = Rows.linkMakesRow.goesBy Tryz.prog := by kernel_rfl
theorem card5 : (Tryz.f3.params.toList.all fun u => !Tryz.prog.wantsStandIn u) = true := by kernel_rfl
theorem card6 : Tryz.prog.funcNamed "wireless/wirelesslaw30.LinkMakes" = some 3 := by kernel_rfl
theorem card7 (f : FuncId) (fn : Func) (hf : Tryz.prog.funcNamed Rows.linkMakesRow.func = some f) (hfn : Tryz.prog.funcs[f]? = some fn) : false = Tryz.prog.looks [] ∧ ∀ (j : Nat) t, fn.params[j]? = some t → Tryz.prog.wantsStandIn t = false := by
  obtain rfl : f = 3 := Option.some.inj (card6.symm.trans hf) |>.symm
  obtain rfl : fn = Tryz.f3 := (Option.some.inj (Tryz.func3.symm.trans hfn)).symm
  refine ⟨card3, fun j t ht => ?_⟩
  have hm : t ∈ Tryz.f3.params.toList := Array.mem_toList_iff.2 (Array.mem_of_getElem? ht)
  have h : (!Tryz.prog.wantsStandIn t) = true := List.all_eq_true.1 card5 t hm
  cases hw : Tryz.prog.wantsStandIn t with
  | false => rfl
  | true => rw [hw] at h; cases h
theorem proved : Rows.LinkMakesCardSaid :=
  Claim7.holds_tied_plain_at .later [] [.data] true Rows.linkMakesCard.stood.harness false over (fun _ h => by cases h) card1 (fun _ h => by cases h) linkMakes_row_tie rfl ⟨rfl, rfl⟩ card2 rfl card7 card4
#print axioms proved
end Go.Proofs.YtjodhcdmhobmoaaGreatDoor.law3
