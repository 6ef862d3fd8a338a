/-
  At the end of an event the program does with a side that occurs in a connection what the document says: the same side and the same indications. No conditions but the ranges of the arguments' types and the row's own (the listed table of the program).
-/
import Derived.Test.YtjodhcdmhobmoaaGreatDoorRows
import Derived.Test.YtjodhcdmhobmoaaGreatDoorQ2
import Derived.OpenShut
import Derived.Test.YtjodhcdmhobmoaaGreatDoorLinkClosesFc
import Derived.Test.YtjodhcdmhobmoaaGreatDoorCards
import Derived.Test.YtjodhcdmhobmoaaGreatDoorTie
import Derived.Test.YtjodhcdmhobmoaaGreatDoorL6
import Derived.ProofKit
import Derived.LaidMore
import Derived.Stop.Joined
import Derived.SevenTiedAt
set_option linter.unusedVariables false
set_option linter.unusedSimpArgs false
namespace Go.Proofs.YtjodhcdmhobmoaaGreatDoor.law6
open Go Go.Proofs.YtjodhcdmhobmoaaGreatDoor.Le Go.Proofs.YtjodhcdmhobmoaaGreatDoor
open Go.ChangeShapes Go.WideShapes Go.ChangeAt Go.RowKit
set_option maxRecDepth 100000
def ZSC (x : ZM) : Prop := (WI .i64) x.Z1E /\ (WI .i64) x.Z0r /\ (WI .i64) x.Z0j /\ (WI .i64) x.Z0o /\ (WI .i64) x.Z1g /\ True
theorem seg23 : Z1G Tryz.prog (Za.pair Z06 (Za.pair Z06 (Za.pair Z06 (Za.pair Z06 (Za.pair Z06 Za.unit))))) [(0, 3), (1, 3), (2, 3), (3, 3), (4, 3)] 0 5 (fun x => ZSC (⟨x.1, x.2.1, x.2.2.1, x.2.2.2.1, x.2.2.2.2.1⟩)) := (Z1G.pair (off := 0) (k := 1) (ZY.int (t := 3) (by kernel_rfl)) (by kernel_rfl) (Z1G.pair (off := 1) (k := 1) (ZY.int (t := 3) (by kernel_rfl)) (by kernel_rfl) (Z1G.pair (off := 2) (k := 1) (ZY.int (t := 3) (by kernel_rfl)) (by kernel_rfl) (Z1G.pair (off := 3) (k := 1) (ZY.int (t := 3) (by kernel_rfl)) (by kernel_rfl) (Z1G.pair (off := 4) (k := 1) (ZY.int (t := 3) (by kernel_rfl)) (by kernel_rfl) (Z1G.unit rfl))))))
theorem rd23 (t : Nat) {dd : TypeDesc} (ht : Tryz.prog.underlying t = some dd) (hs : (Z7Q Tryz.prog dd = some [(0, 3), (1, 3), (2, 3), (3, 3), (4, 3)]) /\ Tryz.prog.cellsOf t = 5) : ZY Tryz.prog ZIV t ZSC := (ZY.row ht hs.1 hs.2 seg23).iso (fun _ => rfl)
def wf27 (x : Zy) : Prop := (WI .u32) x.Z3W /\ (WI .u32) x.ZOI /\ ZSC x.Zt /\ (WI .u64) x.Map /\ (WI .i64) x.Hop /\ (WI .i64) x.PPM /\ (WI .i64) x.Z2K /\ True
theorem seg27 : Z1G Tryz.prog (Za.pair ZOk (Za.pair ZOk (Za.pair ZIV (Za.pair Z5S (Za.pair Z06 (Za.pair Z06 (Za.pair Z06 Za.unit))))))) [(0, 22), (1, 22), (2, 24), (7, 26), (8, 3), (9, 3), (10, 3)] 0 11 (fun x => wf27 (⟨x.1, x.2.1, x.2.2.1, x.2.2.2.1, x.2.2.2.2.1, x.2.2.2.2.2.1, x.2.2.2.2.2.2.1⟩)) := (Z1G.pair (off := 0) (k := 1) (ZY.int (t := 22) (by kernel_rfl)) (by kernel_rfl) (Z1G.pair (off := 1) (k := 1) (ZY.int (t := 22) (by kernel_rfl)) (by kernel_rfl) (Z1G.pair (off := 2) (k := 5) (rd23 24 Tryz.underlying24 ⟨by kernel_rfl, by kernel_rfl⟩) (by kernel_rfl) (Z1G.pair (off := 7) (k := 1) (ZY.int (t := 26) (by kernel_rfl)) (by kernel_rfl) (Z1G.pair (off := 8) (k := 1) (ZY.int (t := 3) (by kernel_rfl)) (by kernel_rfl) (Z1G.pair (off := 9) (k := 1) (ZY.int (t := 3) (by kernel_rfl)) (by kernel_rfl) (Z1G.pair (off := 10) (k := 1) (ZY.int (t := 3) (by kernel_rfl)) (by kernel_rfl) (Z1G.unit rfl))))))))
theorem rd27 (t : Nat) {dd : TypeDesc} (ht : Tryz.prog.underlying t = some dd) (hs : (Z7Q Tryz.prog dd = some [(0, 22), (1, 22), (2, 24), (7, 26), (8, 3), (9, 3), (10, 3)]) /\ Tryz.prog.cellsOf t = 11) : ZY Tryz.prog ZNj t wf27 := (ZY.row ht hs.1 hs.2 seg27).iso (fun _ => rfl)
def wf56 (x : ZM3) : Prop := (WI .u64) x.x0 /\ (WI .u64) x.x1 /\ True
theorem seg56 : Z1G Tryz.prog (Za.pair Z5S (Za.pair Z5S Za.unit)) [(0, 29), (1, 29)] 0 2 (fun x => wf56 (⟨x.1, x.2.1⟩)) := (Z1G.pair (off := 0) (k := 1) (ZY.int (t := 29) (by kernel_rfl)) (by kernel_rfl) (Z1G.pair (off := 1) (k := 1) (ZY.int (t := 29) (by kernel_rfl)) (by kernel_rfl) (Z1G.unit rfl)))
theorem rd56 (t : Nat) {dd : TypeDesc} (ht : Tryz.prog.underlying t = some dd) (hs : (Z7Q Tryz.prog dd = some [(0, 29), (1, 29)]) /\ Tryz.prog.cellsOf t = 2) : ZY Tryz.prog ZSz t wf56 := (ZY.row ht hs.1 hs.2 seg56).iso (fun _ => rfl)
def wf67 (x : Zd) : Prop := (WI .i64) x.Z5f /\ (WL (WI .u8)) x.Payload /\ True
theorem seg67 : Z1G Tryz.prog (Za.pair Z06 (Za.pair (Za.list 5 1 (fun (a : Int) => cu8.ZU a) : Za Ty (List (Ty 5))) Za.unit)) [(0, 3), (1, 62)] 0 2 (fun x => wf67 (⟨x.1, x.2.1⟩)) := (Z1G.pair (off := 0) (k := 1) (ZY.int (t := 3) (by kernel_rfl)) (by kernel_rfl) (Z1G.pair (off := 1) (k := 1) (ZY.ones (t := 62) (e := 5) (by kernel_rfl) (by kernel_rfl) (by kernel_rfl) (ZY.int (t := 5) (by kernel_rfl))) (by kernel_rfl) (Z1G.unit rfl)))
theorem rd67 (t : Nat) {dd : TypeDesc} (ht : Tryz.prog.underlying t = some dd) (hs : (Z7Q Tryz.prog dd = some [(0, 3), (1, 62)]) /\ Tryz.prog.cellsOf t = 2) : ZY Tryz.prog ZlP t wf67 := (ZY.row ht hs.1 hs.2 seg67).iso (fun _ => rfl)
def ZSD (x : Z22) : Prop := (WI .i64) x.Side /\ (WI .i64) x.Kind /\ wf67 x.ZF /\ ZSC x.Zt /\ (WI .u64) x.Map /\ (WI .u64) x.Number /\ (WI .u64) x.Key /\ True
theorem seg82 : Z1G Tryz.prog (Za.pair Z06 (Za.pair Z06 (Za.pair ZlP (Za.pair ZIV (Za.pair Z5S (Za.pair Z5S (Za.pair Z5S Za.unit))))))) [(0, 3), (1, 3), (2, 68), (4, 24), (9, 26), (10, 25), (11, 29)] 0 12 (fun x => ZSD (⟨x.1, x.2.1, x.2.2.1, x.2.2.2.1, x.2.2.2.2.1, x.2.2.2.2.2.1, x.2.2.2.2.2.2.1⟩)) := (Z1G.pair (off := 0) (k := 1) (ZY.int (t := 3) (by kernel_rfl)) (by kernel_rfl) (Z1G.pair (off := 1) (k := 1) (ZY.int (t := 3) (by kernel_rfl)) (by kernel_rfl) (Z1G.pair (off := 2) (k := 2) (rd67 68 Tryz.underlying68 ⟨by kernel_rfl, by kernel_rfl⟩) (by kernel_rfl) (Z1G.pair (off := 4) (k := 5) (rd23 24 Tryz.underlying24 ⟨by kernel_rfl, by kernel_rfl⟩) (by kernel_rfl) (Z1G.pair (off := 9) (k := 1) (ZY.int (t := 26) (by kernel_rfl)) (by kernel_rfl) (Z1G.pair (off := 10) (k := 1) (ZY.int (t := 25) (by kernel_rfl)) (by kernel_rfl) (Z1G.pair (off := 11) (k := 1) (ZY.int (t := 29) (by kernel_rfl)) (by kernel_rfl) (Z1G.unit rfl))))))))
theorem rd82 (t : Nat) {dd : TypeDesc} (ht : Tryz.prog.underlying t = some dd) (hs : (Z7Q Tryz.prog dd = some [(0, 3), (1, 3), (2, 68), (4, 24), (9, 26), (10, 25), (11, 29)]) /\ Tryz.prog.cellsOf t = 12) : ZY Tryz.prog ZOo t ZSD := (ZY.row ht hs.1 hs.2 seg82).iso (fun _ => rfl)
def ZPM (x : Zq) : Prop := (WL ZSD) x.ZOg /\ (WI .i64) x.ZQK /\ (WI .i64) x.ZQB /\ True
theorem ZR2 : Z1G Tryz.prog (Za.pair (Za.list 83 12 (fun (a : Z22) => .agg (ZOo.ZJ a)) : Za Ty (List (Ty 83))) (Za.pair Z06 (Za.pair Z06 Za.unit))) [(0, 111), (1, 3), (2, 3)] 0 3 (fun x => ZPM (⟨x.1, x.2.1, x.2.2.1⟩)) := (Z1G.pair (off := 0) (k := 1) (ZY.rows (t := 111) (e := 83) (by kernel_rfl) (by kernel_rfl) (by kernel_rfl) (rd82 83 Tryz.underlying83 ⟨by kernel_rfl, by kernel_rfl⟩)) (by kernel_rfl) (Z1G.pair (off := 1) (k := 1) (ZY.int (t := 3) (by kernel_rfl)) (by kernel_rfl) (Z1G.pair (off := 2) (k := 1) (ZY.int (t := 3) (by kernel_rfl)) (by kernel_rfl) (Z1G.unit rfl))))
theorem rd112 (t : Nat) {dd : TypeDesc} (ht : Tryz.prog.underlying t = some dd) (hs : (Z7Q Tryz.prog dd = some [(0, 111), (1, 3), (2, 3)]) /\ Tryz.prog.cellsOf t = 3) : ZY Tryz.prog Zyz t ZPM := (ZY.row ht hs.1 hs.2 ZR2).iso (fun _ => rfl)
def ZS8 (x : Z01) : Prop := wf27 x.ZN /\ wf56 x.Keys /\ (WI .u64) x.Zld /\ (WL ZPM) x.Events /\ (WI .i64) x.Z1z /\ (WI .i64) x.ZF /\ True
theorem seg58 : Z1G Tryz.prog (Za.pair ZNj (Za.pair ZSz (Za.pair Z5S (Za.pair (Za.list 113 3 (fun (a : Zq) => .agg (Zyz.ZJ a)) : Za Ty (List (Ty 113))) (Za.pair Z06 (Za.pair Z06 Za.unit)))))) [(0, 28), (11, 56), (13, 25), (14, 57), (15, 3), (16, 3)] 0 17 (fun x => ZS8 (⟨x.1, x.2.1, x.2.2.1, x.2.2.2.1, x.2.2.2.2.1, x.2.2.2.2.2.1⟩)) := (Z1G.pair (off := 0) (k := 11) (rd27 28 Tryz.underlying28 ⟨by kernel_rfl, by kernel_rfl⟩) (by kernel_rfl) (Z1G.pair (off := 11) (k := 2) (rd56 56 Tryz.underlying56 ⟨by kernel_rfl, by kernel_rfl⟩) (by kernel_rfl) (Z1G.pair (off := 13) (k := 1) (ZY.int (t := 25) (by kernel_rfl)) (by kernel_rfl) (Z1G.pair (off := 14) (k := 1) (ZY.rows (t := 57) (e := 113) (by kernel_rfl) (by kernel_rfl) (by kernel_rfl) (rd112 113 Tryz.underlying113 ⟨by kernel_rfl, by kernel_rfl⟩)) (by kernel_rfl) (Z1G.pair (off := 15) (k := 1) (ZY.int (t := 3) (by kernel_rfl)) (by kernel_rfl) (Z1G.pair (off := 16) (k := 1) (ZY.int (t := 3) (by kernel_rfl)) (by kernel_rfl) (Z1G.unit rfl)))))))
theorem rd58 (t : Nat) {dd : TypeDesc} (ht : Tryz.prog.underlying t = some dd) (hs : (Z7Q Tryz.prog dd = some [(0, 28), (11, 56), (13, 25), (14, 57), (15, 3), (16, 3)]) /\ Tryz.prog.cellsOf t = 17) : ZY Tryz.prog ZQF t ZS8 := (ZY.row ht hs.1 hs.2 seg58).iso (fun _ => rfl)
def WfL (x : Zor U Z2p.ts) : Prop := ZS8 x.1 /\ (WI .i64) x.2.1 /\ True
theorem wi8 {a : Int} (h : WI .u8 a) : R8 a := by
  simp only [WI, Lit.wf, Bool.and_eq_true, decide_eq_true_eq] at h
  have h1 : (IntKind.u8.min) = 0 := rfl
  have h2 : (IntKind.u8.max) = 255 := rfl
  rw [h1, h2] at h
  unfold R8
  omega
theorem wi32 {a : Int} (h : WI .u32 a) : R32 a := by
  simp only [WI, Lit.wf, Bool.and_eq_true, decide_eq_true_eq] at h
  have h1 : (IntKind.u32.min) = 0 := rfl
  have h2 : (IntKind.u32.max) = 4294967295 := rfl
  rw [h1, h2] at h
  unfold R32
  omega
theorem ZQE {a : Int} (h : WI .u64 a) : R64 a := by
  simp only [WI, Lit.wf, Bool.and_eq_true, decide_eq_true_eq] at h
  have h1 : (IntKind.u64.min) = 0 := rfl
  have h2 : (IntKind.u64.max) = 18446744073709551615 := rfl
  rw [h1, h2] at h
  unfold R64
  omega
theorem ZR9 {a : Z22} (h : ZSD a) : acR a := ⟨fun b hb => wi8 (h.2.2.1.2.1.2 b hb), ZQE h.2.2.2.2.1, ZQE h.2.2.2.2.2.1, ZQE h.2.2.2.2.2.2.1⟩
theorem ZR6 {x : Z01} (h : ZS8 x) : Z3m x :=
  ⟨⟨wi32 h.1.1, wi32 h.1.2.1, ZQE h.1.2.2.2.1⟩, ZQE h.2.1.1, ZQE h.2.1.2.1, fun e he a ha => ZR9 ((h.2.2.2.1.2 e he).1.2 a ha)⟩
theorem ZeP (x : Zor U Z2p.ts) (h : WfL x) : Z2p.fn x = some true := by
  obtain ⟨r, h1, h2⟩ := Zl7 x.1 x.2.1 (ZR6 h.1)
  subst h2
  exact h1
theorem own : ownKnob Tryz.prog.godebug = none := by kernel_rfl
theorem laid : laidOutB Tryz.prog = true := by kernel_rfl
def ZLj : List (String × DataW Unit) := [("wireless/crc.sums", Rows.laid_wireless_crc_sums)]
theorem of_laid {W : World} (h : laidMetH Tryz.prog ZLj W) : Z0Q B0 (bare (Zo9 W)) W := fun g r hg => by
  by_cases h0 : g = 0
  · subst h0
    have e : r = (([0, 1788928, 3577856, 3003392, 7155712, 7764992, 6006784, 4252672, 14311424, 12659712, 15529984, 16233472, 12013568, 11279360, 8505344, 10126336] : List Int)).map (fun n => V.lit (.int .u32 n)) := (Option.some.inj ((show gl 0 = some _ from rfl).symm.trans hg)).symm
    subst e
    exact ZMz (P := Tryz.prog) (ks := ([0, 1788928, 3577856, 3003392, 7155712, 7764992, 6006784, 4252672, 14311424, 12659712, 15529984, 16233472, 12013568, 11279360, 8505344, 10126336] : List Int)) (tA := 296) (e := 22) (ik := .u32) (name := "wireless/crc.sums") (by kernel_rfl) (by kernel_rfl) (by kernel_rfl) (by kernel_rfl) (by kernel_rfl) (by kernel_rfl) h
  · exact absurd (hg.symm.trans (show gl g = none from if_neg h0)) (by simp)
theorem door_met (os : Os) (args : Array Value) : laidMetH Tryz.prog ZLj ((World.doorLaid Tryz.prog 400 os).forCall (fun _ _ => 0) ⟨#[], args, []⟩).memory :=
  laidMetH_of_parts3 (fuel := 8) (laidMet_of_run' 8 (by kernel_rfl) (by kernel_rfl)) (by kernel_rfl) (by kernel_rfl)
theorem lifted (os : Os) (started : os.Started) (H : Type) (enc : TypeId × Value -> H) :
    ReturnsInHanded {} Tryz.checked os 6 .any (fun w args => (Rows.linkClosesSpec.pre enc Tryz.prog Tryz.f6 [] false w args /\ laidMetH Tryz.prog ZLj w) /\ sizedMet enc Tryz.prog Tryz.f6 (OpenSpec.ofChange Rows.linkClosesSpec) false w args)
      (Rows.linkClosesSpec.post enc Tryz.prog Tryz.f6 false true false false) := by
  refine returnsInHanded_of_change_and (C := Tryz.checked) (X := fun w _ => laidMetH Tryz.prog ZLj w) (fun _ _ _ hh h => h.of_heap hh) own started (by kernel_rfl) Tryz.func6
    (ChangeSpec.witness_shaped (enc := enc) (C := Tryz.checked) (os := os) (X := fun w _ => laidMetH Tryz.prog ZLj w) false (World.doorLaid Tryz.prog 400 os) #[.agg #[.int .u32 0, .int .u32 0, .int .i64 0, .int .i64 0, .int .i64 0, .int .i64 0, .int .i64 0, .int .u64 0, .int .i64 0, .int .i64 0, .int .i64 0, .int .u64 0, .int .u64 0, .int .u64 0, .slice none 0 0, .int .i64 0, .int .i64 0], .int .i64 0] 8 rfl (World.shaped_of_RefB (by kernel_rfl) (by kernel_rfl)) (by kernel_rfl) (by kernel_rfl) (by kernel_rfl) (door_met os _)) ?_
  intro W base args ds gs before hval hW _ _ hL _
  have hgs : gs.length = 0 := by
    obtain ⟨p, q, hA, hV, _⟩ := hW
    cases gs with
    | nil => rfl
    | cons g gs => exact hV.elim
  have hds : ds.length = 2 := by
    obtain ⟨p, q, hA, hV, _⟩ := hW
    exact ZoS hA
  exact ZR0 (E0 := B0) (m := Z2p) (fn := Tryz.f6) (tb := 4) (d := 12) Zip (ZyQ.cons (ZPv.rows (U := U) (t := 59) (c := ZQF) (wf := ZS8) (by kernel_rfl) (rd58 59 Tryz.underlying59 ⟨by kernel_rfl, by kernel_rfl⟩) (fun _ => rfl)) (ZyQ.cons (ZPv.ones (U := U) (t := 3) (c := Z06) (wf := (WI .i64)) (by kernel_rfl) (ZY.int (t := 3) (by kernel_rfl)) (fun _ => rfl)) ZyQ.nil)) rfl (by decide +kernel) laid (by decide +kernel) rfl (by kernel_rfl) (tt := true) rfl ZeP
    (fun ds gs h1 h2 => by
      match ds, gs, h1, h2 with
      | [d0, d1], [], _, _ => exact ⟨rfl, rfl, rfl⟩)
    (fun j t v h1 h2 => ⟨_, _, hval j t v h1 h2⟩) hW (of_laid hL) (fun W' _ pv h _ sp _ => by cases gs with | nil => exact h | cons g gs => exact h.elim) hds hgs
theorem over : Rows.linkClosesRow.holds Tryz.pinned (OpenSpec.ofChange Rows.linkClosesSpec) :=
  OpenClaim.holds_of_wide 6 Tryz.f6 rfl rfl rfl rfl rfl rfl rfl ⟨rfl, rfl, rfl, rfl, rfl⟩ rfl rfl rfl rfl rfl (by as_aux_lemma => kernel_rfl) Tryz.func6 closed
    (of_decide_eq_true (by as_aux_lemma => kernel_rfl)) (by unfold Func.isWrapper; first | (rw [if_pos (by decide +kernel)]; kernel_rfl) | (rw [if_neg (by decide +kernel)]; exact ⟨rfl, rfl⟩))
    (fun os started H enc _ => lifted os started H enc)
theorem card1 : Rows.linkClosesRow.wfByText (OpenSpec.ofChange Rows.linkClosesSpec) = true := by kernel_rfl
theorem card2 : Tryz.prog.mainIs = some (Rows.linkClosesCard.stood.harness.1, Rows.linkClosesCard.stood.harness.2.toList) := by kernel_rfl
theorem card3 : false = Tryz.prog.looks [] := by kernel_rfl
theorem card4 : false = Rows.linkClosesRow.goesBy Tryz.prog := by kernel_rfl
theorem card5 : (Tryz.f6.params.toList.all fun u => !Tryz.prog.wantsStandIn u) = true := by kernel_rfl
theorem card6 : Tryz.prog.funcNamed "wireless/wirelesslaw30.LinkCloses" = some 6 := by kernel_rfl
theorem card7 (f : FuncId) (fn : Func) (hf : Tryz.prog.funcNamed Rows.linkClosesRow.func = some f) (hfn : Tryz.prog.funcs[f]? = some fn) : false = Tryz.prog.looks [] /\ ∀ (j : Nat) t, fn.params[j]? = some t -> Tryz.prog.wantsStandIn t = false := by
  obtain rfl : f = 6 := Option.some.inj (card6.symm.trans hf) |>.symm
  obtain rfl : fn = Tryz.f6 := (Option.some.inj (Tryz.func6.symm.trans hfn)).symm
  refine ⟨card3, fun j t ht => ?_⟩
  have hm : t ∈ Tryz.f6.params.toList := Array.mem_toList_iff.2 (Array.mem_of_getElem? ht)
  have h : (!Tryz.prog.wantsStandIn t) = true := List.all_eq_true.1 card5 t hm
  cases hw : Tryz.prog.wantsStandIn t with
  | false => rfl
  | true => rw [hw] at h; cases h
theorem proved : Rows.LinkClosesCardSaid :=
  Claim7.holds_tied_plain_at .later [] [.data] true Rows.linkClosesCard.stood.harness false over (fun _ h => by cases h) card1 (fun _ h => by cases h) linkCloses_row_tie rfl ⟨rfl, rfl⟩ card2 rfl card7 card4
#print axioms proved
end Go.Proofs.YtjodhcdmhobmoaaGreatDoor.law6
