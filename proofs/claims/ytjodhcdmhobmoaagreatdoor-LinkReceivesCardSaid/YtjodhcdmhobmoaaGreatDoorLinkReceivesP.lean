/-
  What a side that occurs in a connection does about any bytes that arrive, what it reports and whether the event goes on are what the document says. No conditions but the ranges of the arguments' types and the row's own (the listed table of the program).
-/
import Derived.Test.YtjodhcdmhobmoaaGreatDoorRows
import Derived.Test.YtjodhcdmhobmoaaGreatDoorVQ3
import Derived.OpenShut
import Derived.Test.YtjodhcdmhobmoaaGreatDoorLinkReceivesFc
import Derived.Test.YtjodhcdmhobmoaaGreatDoorCards
import Derived.Test.YtjodhcdmhobmoaaGreatDoorTie
import Derived.Test.YtjodhcdmhobmoaaGreatDoorVL6
import Derived.ProofKit
import Derived.LaidMore
import Derived.Stop.Joined
import Derived.SevenTiedAt
set_option linter.unusedVariables false
set_option linter.unusedSimpArgs false
namespace Go.Proofs.YtjodhcdmhobmoaaGreatDoor.law8
open Go Go.Proofs.YtjodhcdmhobmoaaGreatDoor.Le Go.Proofs.YtjodhcdmhobmoaaGreatDoor
open Go.ChangeShapes Go.WideShapes Go.ChangeAt Go.RowKit
set_option maxRecDepth 100000
def zW (x : D5) : Prop := (WI .i64) x.EK /\ (WI .i64) x.Dx /\ (WI .i64) x.D9 /\ (WI .i64) x.Dh /\ (WI .i64) x.ER /\ True
theorem seg23 : Dq Tryz.prog (AL.pair BL (AL.pair BL (AL.pair BL (AL.pair BL (AL.pair BL AL.unit))))) [(0, 3), (1, 3), (2, 3), (3, 3), (4, 3)] 0 5 (fun x => zW (⟨x.1, x.2.1, x.2.2.1, x.2.2.2.1, x.2.2.2.2.1⟩)) := (Dq.pair (off := 0) (k := 1) (DT.int (t := 3) (by kernel_rfl)) (by kernel_rfl) (Dq.pair (off := 1) (k := 1) (DT.int (t := 3) (by kernel_rfl)) (by kernel_rfl) (Dq.pair (off := 2) (k := 1) (DT.int (t := 3) (by kernel_rfl)) (by kernel_rfl) (Dq.pair (off := 3) (k := 1) (DT.int (t := 3) (by kernel_rfl)) (by kernel_rfl) (Dq.pair (off := 4) (k := 1) (DT.int (t := 3) (by kernel_rfl)) (by kernel_rfl) (Dq.unit rfl))))))
theorem rd23 (t : Nat) {dd : TypeDesc} (ht : Tryz.prog.underlying t = some dd) (hs : (Jn Tryz.prog dd = some [(0, 3), (1, 3), (2, 3), (3, 3), (4, 3)]) /\ Tryz.prog.cellsOf t = 5) : DT Tryz.prog OQ t zW := (DT.row ht hs.1 hs.2 seg23).Cj (fun _ => rfl)
def wf27 (x : FW) : Prop := (WI .u32) x.Il /\ (WI .u32) x.LJ /\ zW x.BB /\ (WI .u64) x.Map /\ (WI .i64) x.Hop /\ (WI .i64) x.mQ /\ (WI .i64) x.MH /\ True
theorem seg27 : Dq Tryz.prog (AL.pair QE (AL.pair QE (AL.pair OQ (AL.pair C9 (AL.pair BL (AL.pair BL (AL.pair BL AL.unit))))))) [(0, 22), (1, 22), (2, 24), (7, 26), (8, 3), (9, 3), (10, 3)] 0 11 (fun x => wf27 (⟨x.1, x.2.1, x.2.2.1, x.2.2.2.1, x.2.2.2.2.1, x.2.2.2.2.2.1, x.2.2.2.2.2.2.1⟩)) := (Dq.pair (off := 0) (k := 1) (DT.int (t := 22) (by kernel_rfl)) (by kernel_rfl) (Dq.pair (off := 1) (k := 1) (DT.int (t := 22) (by kernel_rfl)) (by kernel_rfl) (Dq.pair (off := 2) (k := 5) (rd23 24 Tryz.underlying24 ⟨by kernel_rfl, by kernel_rfl⟩) (by kernel_rfl) (Dq.pair (off := 7) (k := 1) (DT.int (t := 26) (by kernel_rfl)) (by kernel_rfl) (Dq.pair (off := 8) (k := 1) (DT.int (t := 3) (by kernel_rfl)) (by kernel_rfl) (Dq.pair (off := 9) (k := 1) (DT.int (t := 3) (by kernel_rfl)) (by kernel_rfl) (Dq.pair (off := 10) (k := 1) (DT.int (t := 3) (by kernel_rfl)) (by kernel_rfl) (Dq.unit rfl))))))))
theorem rd27 (t : Nat) {dd : TypeDesc} (ht : Tryz.prog.underlying t = some dd) (hs : (Jn Tryz.prog dd = some [(0, 22), (1, 22), (2, 24), (7, 26), (8, 3), (9, 3), (10, 3)]) /\ Tryz.prog.cellsOf t = 11) : DT Tryz.prog RH t wf27 := (DT.row ht hs.1 hs.2 seg27).Cj (fun _ => rfl)
def wf56 (x : Z5o) : Prop := (WI .u64) x.x0 /\ (WI .u64) x.x1 /\ True
theorem seg56 : Dq Tryz.prog (AL.pair C9 (AL.pair C9 AL.unit)) [(0, 29), (1, 29)] 0 2 (fun x => wf56 (⟨x.1, x.2.1⟩)) := (Dq.pair (off := 0) (k := 1) (DT.int (t := 29) (by kernel_rfl)) (by kernel_rfl) (Dq.pair (off := 1) (k := 1) (DT.int (t := 29) (by kernel_rfl)) (by kernel_rfl) (Dq.unit rfl)))
theorem rd56 (t : Nat) {dd : TypeDesc} (ht : Tryz.prog.underlying t = some dd) (hs : (Jn Tryz.prog dd = some [(0, 29), (1, 29)]) /\ Tryz.prog.cellsOf t = 2) : DT Tryz.prog Z9 t wf56 := (DT.row ht hs.1 hs.2 seg56).Cj (fun _ => rfl)
def wf67 (x : Aq) : Prop := (WI .i64) x.BP /\ (WL (WI .u8)) x.Payload /\ True
theorem seg67 : Dq Tryz.prog (AL.pair BL (AL.pair (AL.list 5 1 (fun (a : Int) => EW.BU a) : AL Ty (List (Ty 5))) AL.unit)) [(0, 3), (1, 62)] 0 2 (fun x => wf67 (⟨x.1, x.2.1⟩)) := (Dq.pair (off := 0) (k := 1) (DT.int (t := 3) (by kernel_rfl)) (by kernel_rfl) (Dq.pair (off := 1) (k := 1) (DT.ones (t := 62) (e := 5) (by kernel_rfl) (by kernel_rfl) (by kernel_rfl) (DT.int (t := 5) (by kernel_rfl))) (by kernel_rfl) (Dq.unit rfl)))
theorem rd67 (t : Nat) {dd : TypeDesc} (ht : Tryz.prog.underlying t = some dd) (hs : (Jn Tryz.prog dd = some [(0, 3), (1, 62)]) /\ Tryz.prog.cellsOf t = 2) : DT Tryz.prog Ir t wf67 := (DT.row ht hs.1 hs.2 seg67).Cj (fun _ => rfl)
def Z8 (x : Hg) : Prop := (WI .i64) x.Side /\ (WI .i64) x.Kind /\ wf67 x.Ap /\ zW x.BB /\ (WI .u64) x.Map /\ (WI .u64) x.Number /\ (WI .u64) x.Key /\ True
theorem seg82 : Dq Tryz.prog (AL.pair BL (AL.pair BL (AL.pair Ir (AL.pair OQ (AL.pair C9 (AL.pair C9 (AL.pair C9 AL.unit))))))) [(0, 3), (1, 3), (2, 68), (4, 24), (9, 26), (10, 25), (11, 29)] 0 12 (fun x => Z8 (⟨x.1, x.2.1, x.2.2.1, x.2.2.2.1, x.2.2.2.2.1, x.2.2.2.2.2.1, x.2.2.2.2.2.2.1⟩)) := (Dq.pair (off := 0) (k := 1) (DT.int (t := 3) (by kernel_rfl)) (by kernel_rfl) (Dq.pair (off := 1) (k := 1) (DT.int (t := 3) (by kernel_rfl)) (by kernel_rfl) (Dq.pair (off := 2) (k := 2) (rd67 68 Tryz.underlying68 ⟨by kernel_rfl, by kernel_rfl⟩) (by kernel_rfl) (Dq.pair (off := 4) (k := 5) (rd23 24 Tryz.underlying24 ⟨by kernel_rfl, by kernel_rfl⟩) (by kernel_rfl) (Dq.pair (off := 9) (k := 1) (DT.int (t := 26) (by kernel_rfl)) (by kernel_rfl) (Dq.pair (off := 10) (k := 1) (DT.int (t := 25) (by kernel_rfl)) (by kernel_rfl) (Dq.pair (off := 11) (k := 1) (DT.int (t := 29) (by kernel_rfl)) (by kernel_rfl) (Dq.unit rfl))))))))
theorem rd82 (t : Nat) {dd : TypeDesc} (ht : Tryz.prog.underlying t = some dd) (hs : (Jn Tryz.prog dd = some [(0, 3), (1, 3), (2, 68), (4, 24), (9, 26), (10, 25), (11, 29)]) /\ Tryz.prog.cellsOf t = 12) : DT Tryz.prog Tf t Z8 := (DT.row ht hs.1 hs.2 seg82).Cj (fun _ => rfl)
def Z5N (x : FD) : Prop := (WL Z8) x.Tc /\ (WI .i64) x.Y6 /\ (WI .i64) x.Yc /\ True
theorem ZFN : Dq Tryz.prog (AL.pair (AL.list 83 12 (fun (a : Hg) => .agg (Tf.BD a)) : AL Ty (List (Ty 83))) (AL.pair BL (AL.pair BL AL.unit))) [(0, 111), (1, 3), (2, 3)] 0 3 (fun x => Z5N (⟨x.1, x.2.1, x.2.2.1⟩)) := (Dq.pair (off := 0) (k := 1) (DT.rows (t := 111) (e := 83) (by kernel_rfl) (by kernel_rfl) (by kernel_rfl) (rd82 83 Tryz.underlying83 ⟨by kernel_rfl, by kernel_rfl⟩)) (by kernel_rfl) (Dq.pair (off := 1) (k := 1) (DT.int (t := 3) (by kernel_rfl)) (by kernel_rfl) (Dq.pair (off := 2) (k := 1) (DT.int (t := 3) (by kernel_rfl)) (by kernel_rfl) (Dq.unit rfl))))
theorem rd112 (t : Nat) {dd : TypeDesc} (ht : Tryz.prog.underlying t = some dd) (hs : (Jn Tryz.prog dd = some [(0, 111), (1, 3), (2, 3)]) /\ Tryz.prog.cellsOf t = 3) : DT Tryz.prog TR t Z5N := (DT.row ht hs.1 hs.2 ZFN).Cj (fun _ => rfl)
def lU (x : Jc) : Prop := wf27 x.DR /\ wf56 x.Keys /\ (WI .u64) x.IC /\ (WL Z5N) x.Events /\ (WI .i64) x.BK /\ (WI .i64) x.Ap /\ True
theorem seg58 : Dq Tryz.prog (AL.pair RH (AL.pair Z9 (AL.pair C9 (AL.pair (AL.list 113 3 (fun (a : FD) => .agg (TR.BD a)) : AL Ty (List (Ty 113))) (AL.pair BL (AL.pair BL AL.unit)))))) [(0, 28), (11, 56), (13, 25), (14, 57), (15, 3), (16, 3)] 0 17 (fun x => lU (⟨x.1, x.2.1, x.2.2.1, x.2.2.2.1, x.2.2.2.2.1, x.2.2.2.2.2.1⟩)) := (Dq.pair (off := 0) (k := 11) (rd27 28 Tryz.underlying28 ⟨by kernel_rfl, by kernel_rfl⟩) (by kernel_rfl) (Dq.pair (off := 11) (k := 2) (rd56 56 Tryz.underlying56 ⟨by kernel_rfl, by kernel_rfl⟩) (by kernel_rfl) (Dq.pair (off := 13) (k := 1) (DT.int (t := 25) (by kernel_rfl)) (by kernel_rfl) (Dq.pair (off := 14) (k := 1) (DT.rows (t := 57) (e := 113) (by kernel_rfl) (by kernel_rfl) (by kernel_rfl) (rd112 113 Tryz.underlying113 ⟨by kernel_rfl, by kernel_rfl⟩)) (by kernel_rfl) (Dq.pair (off := 15) (k := 1) (DT.int (t := 3) (by kernel_rfl)) (by kernel_rfl) (Dq.pair (off := 16) (k := 1) (DT.int (t := 3) (by kernel_rfl)) (by kernel_rfl) (Dq.unit rfl)))))))
theorem rd58 (t : Nat) {dd : TypeDesc} (ht : Tryz.prog.underlying t = some dd) (hs : (Jn Tryz.prog dd = some [(0, 28), (11, 56), (13, 25), (14, 57), (15, 3), (16, 3)]) /\ Tryz.prog.cellsOf t = 17) : DT Tryz.prog Ya t lU := (DT.row ht hs.1 hs.2 seg58).Cj (fun _ => rfl)
def WfL (x : F8 U Yv.ts) : Prop := lU x.1 /\ (WL (WI .u8)) x.2.1 /\ WB x.2.2.1 /\ (WI .i64) x.2.2.2.1 /\ True
theorem wi8 {a : Int} (h : WI .u8 a) : R8 a := by
  simp only [WI, Lit.wf, Bool.and_eq_true, decide_eq_true_eq] at h
  have h1 : (IntKind.u8.min) = 0 := rfl
  have h2 : (IntKind.u8.max) = 255 := rfl
  rw [h1, h2] at h
  unfold R8
  omega
theorem wi32 {a : Int} (h : WI .u32 a) : R32 a := by
  simp only [WI, Lit.wf, Bool.and_eq_true, decide_eq_true_eq] at h
  have h1 : (IntKind.u32.min) = 0 := rfl
  have h2 : (IntKind.u32.max) = 4294967295 := rfl
  rw [h1, h2] at h
  unfold R32
  omega
theorem Yf {a : Int} (h : WI .u64 a) : CU a := by
  simp only [WI, Lit.wf, Bool.and_eq_true, decide_eq_true_eq] at h
  have h1 : (IntKind.u64.min) = 0 := rfl
  have h2 : (IntKind.u64.max) = 18446744073709551615 := rfl
  rw [h1, h2] at h
  unfold CU
  omega
theorem ZGt {a : Hg} (h : Z8 a) : Ze a := ⟨fun b hb => wi8 (h.2.2.1.2.1.2 b hb), Yf h.2.2.2.2.1, Yf h.2.2.2.2.2.1, Yf h.2.2.2.2.2.2.1⟩
theorem ZGu {x : Jc} (h : lU x) : FB x :=
  ⟨⟨wi32 h.1.1, wi32 h.1.2.1, Yf h.1.2.2.2.1⟩, Yf h.2.1.1, Yf h.2.1.2.1, fun e he a ha => ZGt ((h.2.2.2.1.2 e he).1.2 a ha)⟩
theorem Zjx (x : F8 U Yv.ts) (h : WfL x) : Yv.fn x = some true := by
  obtain ⟨r, h1, h2⟩ := Zkq x.1 x.2.1 x.2.2.1 x.2.2.2.1 (ZGu h.1) (fun b hb => wi8 (h.2.1.2 b hb))
  subst h2
  exact h1
theorem own : ownKnob Tryz.prog.godebug = none := by kernel_rfl
theorem laid : laidOutB Tryz.prog = true := by kernel_rfl
def lD : List (String × DataW Unit) := [("wireless/crc.sums", Rows.laid_wireless_crc_sums)]
theorem of_laid {W : World} (h : laidMetH Tryz.prog lD W) : EH B0 (bare (Nv W)) W := fun g r hg => by
  by_cases h0 : g = 0
  · subst h0
    have e : r = (([0, 1788928, 3577856, 3003392, 7155712, 7764992, 6006784, 4252672, 14311424, 12659712, 15529984, 16233472, 12013568, 11279360, 8505344, 10126336] : List Int)).map (fun n => V.lit (.int .u32 n)) := (Option.some.inj ((show gl 0 = some _ from rfl).symm.trans hg)).symm
    subst e
    exact ZyV (P := Tryz.prog) (ks := ([0, 1788928, 3577856, 3003392, 7155712, 7764992, 6006784, 4252672, 14311424, 12659712, 15529984, 16233472, 12013568, 11279360, 8505344, 10126336] : List Int)) (tA := 296) (e := 22) (ik := .u32) (name := "wireless/crc.sums") (by kernel_rfl) (by kernel_rfl) (by kernel_rfl) (by kernel_rfl) (by kernel_rfl) (by kernel_rfl) h
  · exact absurd (hg.symm.trans (show gl g = none from if_neg h0)) (by simp)
theorem door_met (os : Os) (args : Array Value) : laidMetH Tryz.prog lD ((World.doorLaid Tryz.prog 400 os).forCall (fun _ _ => 0) ⟨#[], args, []⟩).memory :=
  laidMetH_of_parts3 (fuel := 8) (laidMet_of_run' 8 (by kernel_rfl) (by kernel_rfl)) (by kernel_rfl) (by kernel_rfl)
theorem lifted (os : Os) (started : os.Started) (H : Type) (enc : TypeId × Value -> H) :
    ReturnsInHanded {} Tryz.checked os 8 .any (fun w args => (Rows.linkReceivesSpec.pre enc Tryz.prog Tryz.f8 [] false w args /\ laidMetH Tryz.prog lD w) /\ sizedMet enc Tryz.prog Tryz.f8 (OpenSpec.ofChange Rows.linkReceivesSpec) false w args)
      (Rows.linkReceivesSpec.post enc Tryz.prog Tryz.f8 false true false false) := by
  refine returnsInHanded_of_change_and (C := Tryz.checked) (X := fun w _ => laidMetH Tryz.prog lD w) (fun _ _ _ hh h => h.of_heap hh) own started (by kernel_rfl) Tryz.func8
    (ChangeSpec.witness_shaped (enc := enc) (C := Tryz.checked) (os := os) (X := fun w _ => laidMetH Tryz.prog lD w) false (World.doorLaid Tryz.prog 400 os) #[.agg #[.int .u32 0, .int .u32 0, .int .i64 0, .int .i64 0, .int .i64 0, .int .i64 0, .int .i64 0, .int .u64 0, .int .i64 0, .int .i64 0, .int .i64 0, .int .u64 0, .int .u64 0, .int .u64 0, .slice none 0 0, .int .i64 0, .int .i64 0], .slice none 0 0, .bool false, .int .i64 0] 8 rfl (World.shaped_of_RefB (by kernel_rfl) (by kernel_rfl)) (by kernel_rfl) (by kernel_rfl) (by kernel_rfl) (door_met os _)) ?_
  intro W base args ds gs before hval hW _ _ hL _
  have hgs : gs.length = 0 := by
    obtain ⟨p, q, hA, hV, _⟩ := hW
    cases gs with
    | nil => rfl
    | cons g gs => exact hV.elim
  have hds : ds.length = 4 := by
    obtain ⟨p, q, hA, hV, _⟩ := hW
    exact Zcj hA
  exact ZEP (E0 := B0) (m := Yv) (fn := Tryz.f8) (tb := 4) (d := 12) Zk8 (QA.cons (RJ.rows (U := U) (t := 59) (c := Ya) (wf := lU) (by kernel_rfl) (rd58 59 Tryz.underlying59 ⟨by kernel_rfl, by kernel_rfl⟩) (fun _ => rfl)) (QA.cons (RJ.ones (U := U) (t := 62) (c := (AL.list 5 1 (fun (a : Int) => EW.BU a) : AL Ty (List (Ty 5)))) (wf := (WL (WI .u8))) (by kernel_rfl) (DT.ones (t := 62) (e := 5) (by kernel_rfl) (by kernel_rfl) (by kernel_rfl) (DT.int (t := 5) (by kernel_rfl))) (fun _ => rfl)) (QA.cons (RJ.ones (U := U) (t := 4) (c := EI) (wf := WB) (by kernel_rfl) (DT.bool (t := 4) (by kernel_rfl)) (fun _ => rfl)) (QA.cons (RJ.ones (U := U) (t := 3) (c := BL) (wf := (WI .i64)) (by kernel_rfl) (DT.int (t := 3) (by kernel_rfl)) (fun _ => rfl)) QA.nil)))) rfl (by decide +kernel) laid (by decide +kernel) rfl (by kernel_rfl) (tt := true) rfl Zjx
    (fun ds gs h1 h2 => by
      match ds, gs, h1, h2 with
      | [d0, d1, d2, d3], [], _, _ => exact ⟨rfl, rfl, rfl⟩)
    (fun j t v h1 h2 => ⟨_, _, hval j t v h1 h2⟩) hW (of_laid hL) (fun W' _ pv h _ sp _ => by cases gs with | nil => exact h | cons g gs => exact h.elim) hds hgs
theorem over : Rows.linkReceivesRow.holds Tryz.pinned (OpenSpec.ofChange Rows.linkReceivesSpec) :=
  OpenClaim.holds_of_wide 8 Tryz.f8 rfl rfl rfl rfl rfl rfl rfl ⟨rfl, rfl, rfl, rfl, rfl⟩ rfl rfl rfl rfl rfl (by as_aux_lemma => kernel_rfl) Tryz.func8 closed
    (of_decide_eq_true (by as_aux_lemma => kernel_rfl)) (by unfold Func.isWrapper; first | (rw [if_pos (by decide +kernel)]; kernel_rfl) | (rw [if_neg (by decide +kernel)]; exact ⟨rfl, rfl⟩))
    (fun os started H enc _ => lifted os started H enc)
theorem card1 : Rows.linkReceivesRow.wfByText (OpenSpec.ofChange Rows.linkReceivesSpec) = true := by kernel_rfl
theorem card2 : Tryz.prog.mainIs = some (Rows.linkReceivesCard.stood.harness.1, Rows.linkReceivesCard.stood.harness.2.toList) := by kernel_rfl
theorem card3 : false = Tryz.prog.looks [] := by kernel_rfl
theorem card4 : false = Rows.linkReceivesRow.goesBy Tryz.prog := by kernel_rfl
theorem card5 : (Tryz.f8.params.toList.all fun u => !Tryz.prog.wantsStandIn u) = true := by kernel_rfl
theorem card6 : Tryz.prog.funcNamed "wireless/wirelesslaw30.LinkReceives" = some 8 := by kernel_rfl
theorem card7 (f : FuncId) (fn : Func) (hf : Tryz.prog.funcNamed Rows.linkReceivesRow.func = some f) (hfn : Tryz.prog.funcs[f]? = some fn) : false = Tryz.prog.looks [] /\ ∀ (j : Nat) t, fn.params[j]? = some t -> Tryz.prog.wantsStandIn t = false := by
  obtain rfl : f = 8 := Option.some.inj (card6.symm.trans hf) |>.symm
  obtain rfl : fn = Tryz.f8 := (Option.some.inj (Tryz.func8.symm.trans hfn)).symm
  refine ⟨card3, fun j t ht => ?_⟩
  have hm : t ∈ Tryz.f8.params.toList := Array.mem_toList_iff.2 (Array.mem_of_getElem? ht)
  have h : (!Tryz.prog.wantsStandIn t) = true := List.all_eq_true.1 card5 t hm
  cases hw : Tryz.prog.wantsStandIn t with
  | false => rfl
  | true => rw [hw] at h; cases h
theorem proved : Rows.LinkReceivesCardSaid :=
  Claim7.holds_tied_plain_at .later [] [.data] true Rows.linkReceivesCard.stood.harness false over (fun _ h => by cases h) card1 (fun _ h => by cases h) linkReceives_row_tie rfl ⟨rfl, rfl⟩ card2 rfl card7 card4
#print axioms proved
end Go.Proofs.YtjodhcdmhobmoaaGreatDoor.law8
