/-
  If a side that occurs in a connection sends twice and nothing arrives in between, both PDUs that it sends have the same number, kind and payload, encrypted or not, and the second changes nothing. No conditions but the ranges of the arguments' types and the row's own (the listed table of the program).
-/
import Derived.Test.YtjodhcdmhobmoaaGreatDoorRows
import Derived.Test.YtjodhcdmhobmoaaGreatDoorQ2
import Derived.OpenShut
import Derived.Test.YtjodhcdmhobmoaaGreatDoorLinkRepeatsFc
import Derived.Test.YtjodhcdmhobmoaaGreatDoorCards
import Derived.Test.YtjodhcdmhobmoaaGreatDoorTie
import Derived.Test.YtjodhcdmhobmoaaGreatDoorL6
import Derived.ProofKit
import Derived.LaidMore
import Derived.Stop.Joined
import Derived.SevenTiedAt
set_option linter.unusedVariables false
set_option linter.unusedSimpArgs false
namespace Go.Proofs.YtjodhcdmhobmoaaGreatDoor.law5
open Go Go.Proofs.YtjodhcdmhobmoaaGreatDoor.Le Go.Proofs.YtjodhcdmhobmoaaGreatDoor
open Go.ChangeShapes Go.WideShapes Go.ChangeAt Go.RowKit
set_option maxRecDepth 100000
def vU (x : DL) : Prop := (WI .i64) x.ET /\ (WI .i64) x.ES /\ (WI .i64) x.Dl /\ (WI .i64) x.Dx /\ (WI .i64) x.Ea /\ True
theorem seg23 : DZ Tryz.prog (AB.pair BL (AB.pair BL (AB.pair BL (AB.pair BL (AB.pair BL AB.unit))))) [(0, 3), (1, 3), (2, 3), (3, 3), (4, 3)] 0 5 (fun x => vU (⟨x.1, x.2.1, x.2.2.1, x.2.2.2.1, x.2.2.2.2.1⟩)) := (DZ.pair (off := 0) (k := 1) (DC.int (t := 3) (by kernel_rfl)) (by kernel_rfl) (DZ.pair (off := 1) (k := 1) (DC.int (t := 3) (by kernel_rfl)) (by kernel_rfl) (DZ.pair (off := 2) (k := 1) (DC.int (t := 3) (by kernel_rfl)) (by kernel_rfl) (DZ.pair (off := 3) (k := 1) (DC.int (t := 3) (by kernel_rfl)) (by kernel_rfl) (DZ.pair (off := 4) (k := 1) (DC.int (t := 3) (by kernel_rfl)) (by kernel_rfl) (DZ.unit rfl))))))
theorem rd23 (t : Nat) {dd : TypeDesc} (ht : Tryz.prog.underlying t = some dd) (hs : (JE Tryz.prog dd = some [(0, 3), (1, 3), (2, 3), (3, 3), (4, 3)]) /\ Tryz.prog.cellsOf t = 5) : DC Tryz.prog MZ t vU := (DC.row ht hs.1 hs.2 seg23).C9 (fun _ => rfl)
def wf27 (x : Ey) : Prop := (WI .u32) x.IK /\ (WI .u32) x.FQ /\ vU x.BI /\ (WI .u64) x.Map /\ (WI .i64) x.Hop /\ (WI .i64) x.iY /\ (WI .i64) x.KW /\ True
theorem seg27 : DZ Tryz.prog (AB.pair Om (AB.pair Om (AB.pair MZ (AB.pair CP (AB.pair BL (AB.pair BL (AB.pair BL AB.unit))))))) [(0, 22), (1, 22), (2, 24), (7, 26), (8, 3), (9, 3), (10, 3)] 0 11 (fun x => wf27 (⟨x.1, x.2.1, x.2.2.1, x.2.2.2.1, x.2.2.2.2.1, x.2.2.2.2.2.1, x.2.2.2.2.2.2.1⟩)) := (DZ.pair (off := 0) (k := 1) (DC.int (t := 22) (by kernel_rfl)) (by kernel_rfl) (DZ.pair (off := 1) (k := 1) (DC.int (t := 22) (by kernel_rfl)) (by kernel_rfl) (DZ.pair (off := 2) (k := 5) (rd23 24 Tryz.underlying24 ⟨by kernel_rfl, by kernel_rfl⟩) (by kernel_rfl) (DZ.pair (off := 7) (k := 1) (DC.int (t := 26) (by kernel_rfl)) (by kernel_rfl) (DZ.pair (off := 8) (k := 1) (DC.int (t := 3) (by kernel_rfl)) (by kernel_rfl) (DZ.pair (off := 9) (k := 1) (DC.int (t := 3) (by kernel_rfl)) (by kernel_rfl) (DZ.pair (off := 10) (k := 1) (DC.int (t := 3) (by kernel_rfl)) (by kernel_rfl) (DZ.unit rfl))))))))
theorem rd27 (t : Nat) {dd : TypeDesc} (ht : Tryz.prog.underlying t = some dd) (hs : (JE Tryz.prog dd = some [(0, 22), (1, 22), (2, 24), (7, 26), (8, 3), (9, 3), (10, 3)]) /\ Tryz.prog.cellsOf t = 11) : DC Tryz.prog QB t wf27 := (DC.row ht hs.1 hs.2 seg27).C9 (fun _ => rfl)
def wf56 (x : Z4g) : Prop := (WI .u64) x.x0 /\ (WI .u64) x.x1 /\ True
theorem seg56 : DZ Tryz.prog (AB.pair CP (AB.pair CP AB.unit)) [(0, 29), (1, 29)] 0 2 (fun x => wf56 (⟨x.1, x.2.1⟩)) := (DZ.pair (off := 0) (k := 1) (DC.int (t := 29) (by kernel_rfl)) (by kernel_rfl) (DZ.pair (off := 1) (k := 1) (DC.int (t := 29) (by kernel_rfl)) (by kernel_rfl) (DZ.unit rfl)))
theorem rd56 (t : Nat) {dd : TypeDesc} (ht : Tryz.prog.underlying t = some dd) (hs : (JE Tryz.prog dd = some [(0, 29), (1, 29)]) /\ Tryz.prog.cellsOf t = 2) : DC Tryz.prog wC t wf56 := (DC.row ht hs.1 hs.2 seg56).C9 (fun _ => rfl)
def wf67 (x : Aw) : Prop := (WI .i64) x.Ba /\ (WL (WI .u8)) x.Payload /\ True
theorem seg67 : DZ Tryz.prog (AB.pair BL (AB.pair (AB.list 5 1 (fun (a : Int) => EK.BU a) : AB Ty (List (Ty 5))) AB.unit)) [(0, 3), (1, 62)] 0 2 (fun x => wf67 (⟨x.1, x.2.1⟩)) := (DZ.pair (off := 0) (k := 1) (DC.int (t := 3) (by kernel_rfl)) (by kernel_rfl) (DZ.pair (off := 1) (k := 1) (DC.ones (t := 62) (e := 5) (by kernel_rfl) (by kernel_rfl) (by kernel_rfl) (DC.int (t := 5) (by kernel_rfl))) (by kernel_rfl) (DZ.unit rfl)))
theorem rd67 (t : Nat) {dd : TypeDesc} (ht : Tryz.prog.underlying t = some dd) (hs : (JE Tryz.prog dd = some [(0, 3), (1, 62)]) /\ Tryz.prog.cellsOf t = 2) : DC Tryz.prog IQ t wf67 := (DC.row ht hs.1 hs.2 seg67).C9 (fun _ => rfl)
def vY (x : Gi) : Prop := (WI .i64) x.Side /\ (WI .i64) x.Kind /\ wf67 x.Ak /\ vU x.BI /\ (WI .u64) x.Map /\ (WI .u64) x.Number /\ (WI .u64) x.Key /\ True
theorem seg82 : DZ Tryz.prog (AB.pair BL (AB.pair BL (AB.pair IQ (AB.pair MZ (AB.pair CP (AB.pair CP (AB.pair CP AB.unit))))))) [(0, 3), (1, 3), (2, 68), (4, 24), (9, 26), (10, 25), (11, 29)] 0 12 (fun x => vY (⟨x.1, x.2.1, x.2.2.1, x.2.2.2.1, x.2.2.2.2.1, x.2.2.2.2.2.1, x.2.2.2.2.2.2.1⟩)) := (DZ.pair (off := 0) (k := 1) (DC.int (t := 3) (by kernel_rfl)) (by kernel_rfl) (DZ.pair (off := 1) (k := 1) (DC.int (t := 3) (by kernel_rfl)) (by kernel_rfl) (DZ.pair (off := 2) (k := 2) (rd67 68 Tryz.underlying68 ⟨by kernel_rfl, by kernel_rfl⟩) (by kernel_rfl) (DZ.pair (off := 4) (k := 5) (rd23 24 Tryz.underlying24 ⟨by kernel_rfl, by kernel_rfl⟩) (by kernel_rfl) (DZ.pair (off := 9) (k := 1) (DC.int (t := 26) (by kernel_rfl)) (by kernel_rfl) (DZ.pair (off := 10) (k := 1) (DC.int (t := 25) (by kernel_rfl)) (by kernel_rfl) (DZ.pair (off := 11) (k := 1) (DC.int (t := 29) (by kernel_rfl)) (by kernel_rfl) (DZ.unit rfl))))))))
theorem rd82 (t : Nat) {dd : TypeDesc} (ht : Tryz.prog.underlying t = some dd) (hs : (JE Tryz.prog dd = some [(0, 3), (1, 3), (2, 68), (4, 24), (9, 26), (10, 25), (11, 29)]) /\ Tryz.prog.cellsOf t = 12) : DC Tryz.prog RN t vY := (DC.row ht hs.1 hs.2 seg82).C9 (fun _ => rfl)
def Z4q (x : Ej) : Prop := (WL vY) x.RQ /\ (WI .i64) x.Vx /\ (WI .i64) x.Vp /\ True
theorem ZF8 : DZ Tryz.prog (AB.pair (AB.list 83 12 (fun (a : Gi) => .agg (RN.Au a)) : AB Ty (List (Ty 83))) (AB.pair BL (AB.pair BL AB.unit))) [(0, 111), (1, 3), (2, 3)] 0 3 (fun x => Z4q (⟨x.1, x.2.1, x.2.2.1⟩)) := (DZ.pair (off := 0) (k := 1) (DC.rows (t := 111) (e := 83) (by kernel_rfl) (by kernel_rfl) (by kernel_rfl) (rd82 83 Tryz.underlying83 ⟨by kernel_rfl, by kernel_rfl⟩)) (by kernel_rfl) (DZ.pair (off := 1) (k := 1) (DC.int (t := 3) (by kernel_rfl)) (by kernel_rfl) (DZ.pair (off := 2) (k := 1) (DC.int (t := 3) (by kernel_rfl)) (by kernel_rfl) (DZ.unit rfl))))
theorem rd112 (t : Nat) {dd : TypeDesc} (ht : Tryz.prog.underlying t = some dd) (hs : (JE Tryz.prog dd = some [(0, 111), (1, 3), (2, 3)]) /\ Tryz.prog.cellsOf t = 3) : DC Tryz.prog Qs t Z4q := (DC.row ht hs.1 hs.2 ZF8).C9 (fun _ => rfl)
def iL (x : Iy) : Prop := wf27 x.Bl /\ wf56 x.Keys /\ (WI .u64) x.Ic /\ (WL Z4q) x.Events /\ (WI .i64) x.Bz /\ (WI .i64) x.Ak /\ True
theorem seg58 : DZ Tryz.prog (AB.pair QB (AB.pair wC (AB.pair CP (AB.pair (AB.list 113 3 (fun (a : Ej) => .agg (Qs.Au a)) : AB Ty (List (Ty 113))) (AB.pair BL (AB.pair BL AB.unit)))))) [(0, 28), (11, 56), (13, 25), (14, 57), (15, 3), (16, 3)] 0 17 (fun x => iL (⟨x.1, x.2.1, x.2.2.1, x.2.2.2.1, x.2.2.2.2.1, x.2.2.2.2.2.1⟩)) := (DZ.pair (off := 0) (k := 11) (rd27 28 Tryz.underlying28 ⟨by kernel_rfl, by kernel_rfl⟩) (by kernel_rfl) (DZ.pair (off := 11) (k := 2) (rd56 56 Tryz.underlying56 ⟨by kernel_rfl, by kernel_rfl⟩) (by kernel_rfl) (DZ.pair (off := 13) (k := 1) (DC.int (t := 25) (by kernel_rfl)) (by kernel_rfl) (DZ.pair (off := 14) (k := 1) (DC.rows (t := 57) (e := 113) (by kernel_rfl) (by kernel_rfl) (by kernel_rfl) (rd112 113 Tryz.underlying113 ⟨by kernel_rfl, by kernel_rfl⟩)) (by kernel_rfl) (DZ.pair (off := 15) (k := 1) (DC.int (t := 3) (by kernel_rfl)) (by kernel_rfl) (DZ.pair (off := 16) (k := 1) (DC.int (t := 3) (by kernel_rfl)) (by kernel_rfl) (DZ.unit rfl)))))))
theorem rd58 (t : Nat) {dd : TypeDesc} (ht : Tryz.prog.underlying t = some dd) (hs : (JE Tryz.prog dd = some [(0, 28), (11, 56), (13, 25), (14, 57), (15, 3), (16, 3)]) /\ Tryz.prog.cellsOf t = 17) : DC Tryz.prog Vu t iL := (DC.row ht hs.1 hs.2 seg58).C9 (fun _ => rfl)
def WfL (x : F8 U WX.ts) : Prop := iL x.1 /\ True
theorem wi8 {a : Int} (h : WI .u8 a) : R8 a := by
  simp only [WI, Lit.wf, Bool.and_eq_true, decide_eq_true_eq] at h
  have h1 : (IntKind.u8.min) = 0 := rfl
  have h2 : (IntKind.u8.max) = 255 := rfl
  rw [h1, h2] at h
  unfold R8
  omega
theorem wi32 {a : Int} (h : WI .u32 a) : R32 a := by
  simp only [WI, Lit.wf, Bool.and_eq_true, decide_eq_true_eq] at h
  have h1 : (IntKind.u32.min) = 0 := rfl
  have h2 : (IntKind.u32.max) = 4294967295 := rfl
  rw [h1, h2] at h
  unfold R32
  omega
theorem Vr {a : Int} (h : WI .u64 a) : CB a := by
  simp only [WI, Lit.wf, Bool.and_eq_true, decide_eq_true_eq] at h
  have h1 : (IntKind.u64.min) = 0 := rfl
  have h2 : (IntKind.u64.max) = 18446744073709551615 := rfl
  rw [h1, h2] at h
  unfold CB
  omega
theorem ZE4 {a : Gi} (h : vY a) : wE a := ⟨fun b hb => wi8 (h.2.2.1.2.1.2 b hb), Vr h.2.2.2.2.1, Vr h.2.2.2.2.2.1, Vr h.2.2.2.2.2.2.1⟩
theorem ZEu {x : Iy} (h : iL x) : EN x :=
  ⟨⟨wi32 h.1.1, wi32 h.1.2.1, Vr h.1.2.2.2.1⟩, Vr h.2.1.1, Vr h.2.1.2.1, fun e he a ha => ZE4 ((h.2.2.2.1.2 e he).1.2 a ha)⟩
theorem Zgl (x : F8 U WX.ts) (h : WfL x) : WX.fn x = some true := by
  obtain ⟨r, h1, h2⟩ := ZgU x.1 (ZEu h.1)
  subst h2
  exact h1
theorem own : ownKnob Tryz.prog.godebug = none := by kernel_rfl
theorem laid : laidOutB Tryz.prog = true := by kernel_rfl
def iF : List (String × DataW Unit) := [("wireless/crc.sums", Rows.laid_wireless_crc_sums)]
theorem of_laid {W : World} (h : laidMetH Tryz.prog iF W) : Df B0 (bare (MQ W)) W := fun g r hg => by
  by_cases h0 : g = 0
  · subst h0
    have e : r = (([0, 1788928, 3577856, 3003392, 7155712, 7764992, 6006784, 4252672, 14311424, 12659712, 15529984, 16233472, 12013568, 11279360, 8505344, 10126336] : List Int)).map (fun n => V.lit (.int .u32 n)) := (Option.some.inj ((show gl 0 = some _ from rfl).symm.trans hg)).symm
    subst e
    exact Zxm (P := Tryz.prog) (ks := ([0, 1788928, 3577856, 3003392, 7155712, 7764992, 6006784, 4252672, 14311424, 12659712, 15529984, 16233472, 12013568, 11279360, 8505344, 10126336] : List Int)) (tA := 296) (e := 22) (ik := .u32) (name := "wireless/crc.sums") (by kernel_rfl) (by kernel_rfl) (by kernel_rfl) (by kernel_rfl) (by kernel_rfl) (by kernel_rfl) h
  · exact absurd (hg.symm.trans (show gl g = none from if_neg h0)) (by simp)
theorem door_met (os : Os) (args : Array Value) : laidMetH Tryz.prog iF ((World.doorLaid Tryz.prog 400 os).forCall (fun _ _ => 0) ⟨#[], args, []⟩).memory :=
  laidMetH_of_parts3 (fuel := 8) (laidMet_of_run' 8 (by kernel_rfl) (by kernel_rfl)) (by kernel_rfl) (by kernel_rfl)
theorem lifted (os : Os) (started : os.Started) (H : Type) (enc : TypeId × Value -> H) :
    ReturnsInHanded {} Tryz.checked os 5 .any (fun w args => (Rows.linkRepeatsSpec.pre enc Tryz.prog Tryz.f5 [] false w args /\ laidMetH Tryz.prog iF w) /\ sizedMet enc Tryz.prog Tryz.f5 (OpenSpec.ofChange Rows.linkRepeatsSpec) false w args)
      (Rows.linkRepeatsSpec.post enc Tryz.prog Tryz.f5 false true false false) := by
  refine returnsInHanded_of_change_and (C := Tryz.checked) (X := fun w _ => laidMetH Tryz.prog iF w) (fun _ _ _ hh h => h.of_heap hh) own started (by kernel_rfl) Tryz.func5
    (ChangeSpec.witness_shaped (enc := enc) (C := Tryz.checked) (os := os) (X := fun w _ => laidMetH Tryz.prog iF w) false (World.doorLaid Tryz.prog 400 os) #[.agg #[.int .u32 0, .int .u32 0, .int .i64 0, .int .i64 0, .int .i64 0, .int .i64 0, .int .i64 0, .int .u64 0, .int .i64 0, .int .i64 0, .int .i64 0, .int .u64 0, .int .u64 0, .int .u64 0, .slice none 0 0, .int .i64 0, .int .i64 0]] 8 rfl (World.shaped_of_RefB (by kernel_rfl) (by kernel_rfl)) (by kernel_rfl) (by kernel_rfl) (by kernel_rfl) (door_met os _)) ?_
  intro W base args ds gs before hval hW _ _ hL _
  have hgs : gs.length = 0 := by
    obtain ⟨p, q, hA, hV, _⟩ := hW
    cases gs with
    | nil => rfl
    | cons g gs => exact hV.elim
  have hds : ds.length = 1 := by
    obtain ⟨p, q, hA, hV, _⟩ := hW
    exact Z9U hA
  exact ZEc (E0 := B0) (m := WX) (fn := Tryz.f5) (tb := 4) (d := 12) ZgR (TG.cons (Vh.rows (U := U) (t := 59) (c := Vu) (wf := iL) (by kernel_rfl) (rd58 59 Tryz.underlying59 ⟨by kernel_rfl, by kernel_rfl⟩) (fun _ => rfl)) TG.nil) rfl (by decide +kernel) laid (by decide +kernel) rfl (by kernel_rfl) (tt := true) rfl Zgl
    (fun ds gs h1 h2 => by
      match ds, gs, h1, h2 with
      | [d0], [], _, _ => exact ⟨rfl, rfl, rfl⟩)
    (fun j t v h1 h2 => ⟨_, _, hval j t v h1 h2⟩) hW (of_laid hL) (fun W' _ pv h _ sp _ => by cases gs with | nil => exact h | cons g gs => exact h.elim) hds hgs
theorem over : Rows.linkRepeatsRow.holds Tryz.pinned (OpenSpec.ofChange Rows.linkRepeatsSpec) :=
  OpenClaim.holds_of_wide 5 Tryz.f5 rfl rfl rfl rfl rfl rfl rfl ⟨rfl, rfl, rfl, rfl, rfl⟩ rfl rfl rfl rfl rfl (by as_aux_lemma => kernel_rfl) Tryz.func5 closed
    (of_decide_eq_true (by as_aux_lemma => kernel_rfl)) (by unfold Func.isWrapper; first | (rw [if_pos (by decide +kernel)]; kernel_rfl) | (rw [if_neg (by decide +kernel)]; exact ⟨rfl, rfl⟩))
    (fun os started H enc _ => lifted os started H enc)
theorem card1 : Rows.linkRepeatsRow.wfByText (OpenSpec.ofChange Rows.linkRepeatsSpec) = true := by kernel_rfl
theorem card2 : Tryz.prog.mainIs = some (Rows.linkRepeatsCard.stood.harness.1, Rows.linkRepeatsCard.stood.harness.2.toList) := by kernel_rfl
theorem card3 : false = Tryz.prog.looks [] := by kernel_rfl
theorem card4 : false = Rows.linkRepeatsRow.goesBy Tryz.prog := by kernel_rfl
theorem card5 : (Tryz.f5.params.toList.all fun u => !Tryz.prog.wantsStandIn u) = true := by kernel_rfl
theorem card6 : Tryz.prog.funcNamed "wireless/wirelesslaw30.LinkRepeats" = some 5 := by kernel_rfl
theorem card7 (f : FuncId) (fn : Func) (hf : Tryz.prog.funcNamed Rows.linkRepeatsRow.func = some f) (hfn : Tryz.prog.funcs[f]? = some fn) : false = Tryz.prog.looks [] /\ ∀ (j : Nat) t, fn.params[j]? = some t -> Tryz.prog.wantsStandIn t = false := by
  obtain rfl : f = 5 := Option.some.inj (card6.symm.trans hf) |>.symm
  obtain rfl : fn = Tryz.f5 := (Option.some.inj (Tryz.func5.symm.trans hfn)).symm
  refine ⟨card3, fun j t ht => ?_⟩
  have hm : t ∈ Tryz.f5.params.toList := Array.mem_toList_iff.2 (Array.mem_of_getElem? ht)
  have h : (!Tryz.prog.wantsStandIn t) = true := List.all_eq_true.1 card5 t hm
  cases hw : Tryz.prog.wantsStandIn t with
  | false => rfl
  | true => rw [hw] at h; cases h
theorem proved : Rows.LinkRepeatsCardSaid :=
  Claim7.holds_tied_plain_at .later [] [.data] true Rows.linkRepeatsCard.stood.harness false over (fun _ h => by cases h) card1 (fun _ h => by cases h) linkRepeats_row_tie rfl ⟨rfl, rfl⟩ card2 rfl card7 card4
#print axioms proved
end Go.Proofs.YtjodhcdmhobmoaaGreatDoor.law5
