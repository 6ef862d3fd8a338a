/-
  A side that has ended changes no more, sends nothing, and reports nothing. No conditions but the ranges of the arguments' types and the row's own (the listed table of the program).
-/
import Derived.Test.YtjodhcdmhobmoaaGreatDoorRows
import Derived.Test.YtjodhcdmhobmoaaGreatDoorQ1
import Derived.OpenShut
import Derived.Test.YtjodhcdmhobmoaaGreatDoorLinkEndsFc
import Derived.Test.YtjodhcdmhobmoaaGreatDoorCards
import Derived.Test.YtjodhcdmhobmoaaGreatDoorTie
import Derived.Test.YtjodhcdmhobmoaaGreatDoorL6
import Derived.ProofKit
import Derived.LaidMore
import Derived.Stop.Joined
import Derived.SevenTiedAt
set_option linter.unusedVariables false
set_option linter.unusedSimpArgs false
namespace Go.Proofs.YtjodhcdmhobmoaaGreatDoor.law10
open Go Go.Proofs.YtjodhcdmhobmoaaGreatDoor.Le Go.Proofs.YtjodhcdmhobmoaaGreatDoor
open Go.ChangeShapes Go.WideShapes Go.ChangeAt Go.RowKit
set_option maxRecDepth 100000
def ZMp (x : ZO) : Prop := (WI .i64) x.Z3B /\ (WI .i64) x.Z1h /\ (WI .i64) x.Z1z /\ (WI .i64) x.Z1o /\ (WI .i64) x.Z4b /\ True
theorem seg23 : Z11 Tryz.prog (Za.pair ZW (Za.pair ZW (Za.pair ZW (Za.pair ZW (Za.pair ZW Za.unit))))) [(0, 3), (1, 3), (2, 3), (3, 3), (4, 3)] 0 5 (fun x => ZMp (⟨x.1, x.2.1, x.2.2.1, x.2.2.2.1, x.2.2.2.2.1⟩)) := (Z11.pair (off := 0) (k := 1) (ZM.int (t := 3) (by kernel_rfl)) (by kernel_rfl) (Z11.pair (off := 1) (k := 1) (ZM.int (t := 3) (by kernel_rfl)) (by kernel_rfl) (Z11.pair (off := 2) (k := 1) (ZM.int (t := 3) (by kernel_rfl)) (by kernel_rfl) (Z11.pair (off := 3) (k := 1) (ZM.int (t := 3) (by kernel_rfl)) (by kernel_rfl) (Z11.pair (off := 4) (k := 1) (ZM.int (t := 3) (by kernel_rfl)) (by kernel_rfl) (Z11.unit rfl))))))
theorem rd23 (t : Nat) {dd : TypeDesc} (ht : Tryz.prog.underlying t = some dd) (hs : (Z5C Tryz.prog dd = some [(0, 3), (1, 3), (2, 3), (3, 3), (4, 3)]) /\ Tryz.prog.cellsOf t = 5) : ZM Tryz.prog ZDW t ZMp := (ZM.row ht hs.1 hs.2 seg23).iso (fun _ => rfl)
def wf27 (x : ZG) : Prop := (WI .u32) x.ZfK /\ (WI .u32) x.ZJ3 /\ ZMp x.ZI /\ (WI .u64) x.Map /\ (WI .i64) x.Hop /\ (WI .i64) x.PPM /\ (WI .i64) x.Z73 /\ True
theorem seg27 : Z11 Tryz.prog (Za.pair ZIY (Za.pair ZIY (Za.pair ZDW (Za.pair Z3N (Za.pair ZW (Za.pair ZW (Za.pair ZW Za.unit))))))) [(0, 22), (1, 22), (2, 24), (7, 26), (8, 3), (9, 3), (10, 3)] 0 11 (fun x => wf27 (⟨x.1, x.2.1, x.2.2.1, x.2.2.2.1, x.2.2.2.2.1, x.2.2.2.2.2.1, x.2.2.2.2.2.2.1⟩)) := (Z11.pair (off := 0) (k := 1) (ZM.int (t := 22) (by kernel_rfl)) (by kernel_rfl) (Z11.pair (off := 1) (k := 1) (ZM.int (t := 22) (by kernel_rfl)) (by kernel_rfl) (Z11.pair (off := 2) (k := 5) (rd23 24 Tryz.underlying24 ⟨by kernel_rfl, by kernel_rfl⟩) (by kernel_rfl) (Z11.pair (off := 7) (k := 1) (ZM.int (t := 26) (by kernel_rfl)) (by kernel_rfl) (Z11.pair (off := 8) (k := 1) (ZM.int (t := 3) (by kernel_rfl)) (by kernel_rfl) (Z11.pair (off := 9) (k := 1) (ZM.int (t := 3) (by kernel_rfl)) (by kernel_rfl) (Z11.pair (off := 10) (k := 1) (ZM.int (t := 3) (by kernel_rfl)) (by kernel_rfl) (Z11.unit rfl))))))))
theorem rd27 (t : Nat) {dd : TypeDesc} (ht : Tryz.prog.underlying t = some dd) (hs : (Z5C Tryz.prog dd = some [(0, 22), (1, 22), (2, 24), (7, 26), (8, 3), (9, 3), (10, 3)]) /\ Tryz.prog.cellsOf t = 11) : ZM Tryz.prog ZIy t wf27 := (ZM.row ht hs.1 hs.2 seg27).iso (fun _ => rfl)
def wf56 (x : ZFB) : Prop := (WI .u64) x.x0 /\ (WI .u64) x.x1 /\ True
theorem seg56 : Z11 Tryz.prog (Za.pair Z3N (Za.pair Z3N Za.unit)) [(0, 29), (1, 29)] 0 2 (fun x => wf56 (⟨x.1, x.2.1⟩)) := (Z11.pair (off := 0) (k := 1) (ZM.int (t := 29) (by kernel_rfl)) (by kernel_rfl) (Z11.pair (off := 1) (k := 1) (ZM.int (t := 29) (by kernel_rfl)) (by kernel_rfl) (Z11.unit rfl)))
theorem rd56 (t : Nat) {dd : TypeDesc} (ht : Tryz.prog.underlying t = some dd) (hs : (Z5C Tryz.prog dd = some [(0, 29), (1, 29)]) /\ Tryz.prog.cellsOf t = 2) : ZM Tryz.prog ZMn t wf56 := (ZM.row ht hs.1 hs.2 seg56).iso (fun _ => rfl)
def wf67 (x : Zb) : Prop := (WI .i64) x.Z5c /\ (WL (WI .u8)) x.Payload /\ True
theorem seg67 : Z11 Tryz.prog (Za.pair ZW (Za.pair (Za.list 5 1 (fun (a : Int) => cu8.ZK a) : Za Ty (List (Ty 5))) Za.unit)) [(0, 3), (1, 62)] 0 2 (fun x => wf67 (⟨x.1, x.2.1⟩)) := (Z11.pair (off := 0) (k := 1) (ZM.int (t := 3) (by kernel_rfl)) (by kernel_rfl) (Z11.pair (off := 1) (k := 1) (ZM.ones (t := 62) (e := 5) (by kernel_rfl) (by kernel_rfl) (by kernel_rfl) (ZM.int (t := 5) (by kernel_rfl))) (by kernel_rfl) (Z11.unit rfl)))
theorem rd67 (t : Nat) {dd : TypeDesc} (ht : Tryz.prog.underlying t = some dd) (hs : (Z5C Tryz.prog dd = some [(0, 3), (1, 62)]) /\ Tryz.prog.cellsOf t = 2) : ZM Tryz.prog ZhS t wf67 := (ZM.row ht hs.1 hs.2 seg67).iso (fun _ => rfl)
def ZKK (x : Z0K) : Prop := (WI .i64) x.Side /\ (WI .i64) x.Kind /\ wf67 x.ZH /\ ZMp x.ZI /\ (WI .u64) x.Map /\ (WI .u64) x.Number /\ (WI .u64) x.Key /\ True
theorem seg82 : Z11 Tryz.prog (Za.pair ZW (Za.pair ZW (Za.pair ZhS (Za.pair ZDW (Za.pair Z3N (Za.pair Z3N (Za.pair Z3N Za.unit))))))) [(0, 3), (1, 3), (2, 68), (4, 24), (9, 26), (10, 25), (11, 29)] 0 12 (fun x => ZKK (⟨x.1, x.2.1, x.2.2.1, x.2.2.2.1, x.2.2.2.2.1, x.2.2.2.2.2.1, x.2.2.2.2.2.2.1⟩)) := (Z11.pair (off := 0) (k := 1) (ZM.int (t := 3) (by kernel_rfl)) (by kernel_rfl) (Z11.pair (off := 1) (k := 1) (ZM.int (t := 3) (by kernel_rfl)) (by kernel_rfl) (Z11.pair (off := 2) (k := 2) (rd67 68 Tryz.underlying68 ⟨by kernel_rfl, by kernel_rfl⟩) (by kernel_rfl) (Z11.pair (off := 4) (k := 5) (rd23 24 Tryz.underlying24 ⟨by kernel_rfl, by kernel_rfl⟩) (by kernel_rfl) (Z11.pair (off := 9) (k := 1) (ZM.int (t := 26) (by kernel_rfl)) (by kernel_rfl) (Z11.pair (off := 10) (k := 1) (ZM.int (t := 25) (by kernel_rfl)) (by kernel_rfl) (Z11.pair (off := 11) (k := 1) (ZM.int (t := 29) (by kernel_rfl)) (by kernel_rfl) (Z11.unit rfl))))))))
theorem rd82 (t : Nat) {dd : TypeDesc} (ht : Tryz.prog.underlying t = some dd) (hs : (Z5C Tryz.prog dd = some [(0, 3), (1, 3), (2, 68), (4, 24), (9, 26), (10, 25), (11, 29)]) /\ Tryz.prog.cellsOf t = 12) : ZM Tryz.prog ZIb t ZKK := (ZM.row ht hs.1 hs.2 seg82).iso (fun _ => rfl)
def ZKm (x : Zn) : Prop := (WL ZKK) x.ZJ7 /\ (WI .i64) x.ZKJ /\ (WI .i64) x.ZKG /\ True
theorem ZMb : Z11 Tryz.prog (Za.pair (Za.list 83 12 (fun (a : Z0K) => .agg (ZIb.ZC a)) : Za Ty (List (Ty 83))) (Za.pair ZW (Za.pair ZW Za.unit))) [(0, 111), (1, 3), (2, 3)] 0 3 (fun x => ZKm (⟨x.1, x.2.1, x.2.2.1⟩)) := (Z11.pair (off := 0) (k := 1) (ZM.rows (t := 111) (e := 83) (by kernel_rfl) (by kernel_rfl) (by kernel_rfl) (rd82 83 Tryz.underlying83 ⟨by kernel_rfl, by kernel_rfl⟩)) (by kernel_rfl) (Z11.pair (off := 1) (k := 1) (ZM.int (t := 3) (by kernel_rfl)) (by kernel_rfl) (Z11.pair (off := 2) (k := 1) (ZM.int (t := 3) (by kernel_rfl)) (by kernel_rfl) (Z11.unit rfl))))
theorem rd112 (t : Nat) {dd : TypeDesc} (ht : Tryz.prog.underlying t = some dd) (hs : (Z5C Tryz.prog dd = some [(0, 111), (1, 3), (2, 3)]) /\ Tryz.prog.cellsOf t = 3) : ZM Tryz.prog ZtQ t ZKm := (ZM.row ht hs.1 hs.2 ZMb).iso (fun _ => rfl)
def ZLb (x : ZT) : Prop := wf27 x.ZX /\ wf56 x.Keys /\ (WI .u64) x.Zc9 /\ (WL ZKm) x.Events /\ (WI .i64) x.Z1G /\ (WI .i64) x.ZH /\ True
theorem seg58 : Z11 Tryz.prog (Za.pair ZIy (Za.pair ZMn (Za.pair Z3N (Za.pair (Za.list 113 3 (fun (a : Zn) => .agg (ZtQ.ZC a)) : Za Ty (List (Ty 113))) (Za.pair ZW (Za.pair ZW Za.unit)))))) [(0, 28), (11, 56), (13, 25), (14, 57), (15, 3), (16, 3)] 0 17 (fun x => ZLb (⟨x.1, x.2.1, x.2.2.1, x.2.2.2.1, x.2.2.2.2.1, x.2.2.2.2.2.1⟩)) := (Z11.pair (off := 0) (k := 11) (rd27 28 Tryz.underlying28 ⟨by kernel_rfl, by kernel_rfl⟩) (by kernel_rfl) (Z11.pair (off := 11) (k := 2) (rd56 56 Tryz.underlying56 ⟨by kernel_rfl, by kernel_rfl⟩) (by kernel_rfl) (Z11.pair (off := 13) (k := 1) (ZM.int (t := 25) (by kernel_rfl)) (by kernel_rfl) (Z11.pair (off := 14) (k := 1) (ZM.rows (t := 57) (e := 113) (by kernel_rfl) (by kernel_rfl) (by kernel_rfl) (rd112 113 Tryz.underlying113 ⟨by kernel_rfl, by kernel_rfl⟩)) (by kernel_rfl) (Z11.pair (off := 15) (k := 1) (ZM.int (t := 3) (by kernel_rfl)) (by kernel_rfl) (Z11.pair (off := 16) (k := 1) (ZM.int (t := 3) (by kernel_rfl)) (by kernel_rfl) (Z11.unit rfl)))))))
theorem rd58 (t : Nat) {dd : TypeDesc} (ht : Tryz.prog.underlying t = some dd) (hs : (Z5C Tryz.prog dd = some [(0, 28), (11, 56), (13, 25), (14, 57), (15, 3), (16, 3)]) /\ Tryz.prog.cellsOf t = 17) : ZM Tryz.prog ZKF t ZLb := (ZM.row ht hs.1 hs.2 seg58).iso (fun _ => rfl)
def WfL (x : ZkP U Z28.ts) : Prop := ZLb x.1 /\ (WI .i64) x.2.1 /\ ZKK x.2.2.1 /\ (WL (WI .u8)) x.2.2.2.1 /\ True
theorem wi8 {a : Int} (h : WI .u8 a) : R8 a := by
  simp only [WI, Lit.wf, Bool.and_eq_true, decide_eq_true_eq] at h
  have h1 : (IntKind.u8.min) = 0 := rfl
  have h2 : (IntKind.u8.max) = 255 := rfl
  rw [h1, h2] at h
  unfold R8
  omega
theorem wi32 {a : Int} (h : WI .u32 a) : R32 a := by
  simp only [WI, Lit.wf, Bool.and_eq_true, decide_eq_true_eq] at h
  have h1 : (IntKind.u32.min) = 0 := rfl
  have h2 : (IntKind.u32.max) = 4294967295 := rfl
  rw [h1, h2] at h
  unfold R32
  omega
theorem ZKI {a : Int} (h : WI .u64 a) : R64 a := by
  simp only [WI, Lit.wf, Bool.and_eq_true, decide_eq_true_eq] at h
  have h1 : (IntKind.u64.min) = 0 := rfl
  have h2 : (IntKind.u64.max) = 18446744073709551615 := rfl
  rw [h1, h2] at h
  unfold R64
  omega
theorem ZLL {a : Z0K} (h : ZKK a) : acR a := ⟨fun b hb => wi8 (h.2.2.1.2.1.2 b hb), ZKI h.2.2.2.2.1, ZKI h.2.2.2.2.2.1, ZKI h.2.2.2.2.2.2.1⟩
theorem ZLk {x : ZT} (h : ZLb x) : Z1V x :=
  ⟨⟨wi32 h.1.1, wi32 h.1.2.1, ZKI h.1.2.2.2.1⟩, ZKI h.2.1.1, ZKI h.2.1.2.1, fun e he a ha => ZLL ((h.2.2.2.1.2 e he).1.2 a ha)⟩
theorem ZdO (x : ZkP U Z28.ts) (h : WfL x) : Z28.fn x = some true := by
  obtain ⟨r, h1, h2⟩ := Zka x.1 x.2.1 x.2.2.1 x.2.2.2.1 (ZLk h.1)
  subst h2
  exact h1
theorem own : ownKnob Tryz.prog.godebug = none := by kernel_rfl
theorem laid : laidOutB Tryz.prog = true := by kernel_rfl
def ZGE : List (String × DataW Unit) := [("wireless/crc.sums", Rows.laid_wireless_crc_sums)]
theorem of_laid {W : World} (h : laidMetH Tryz.prog ZGE W) : Z0r B0 (bare (Zkz W)) W := fun g r hg => by
  by_cases h0 : g = 0
  · subst h0
    have e : r = (([0, 1788928, 3577856, 3003392, 7155712, 7764992, 6006784, 4252672, 14311424, 12659712, 15529984, 16233472, 12013568, 11279360, 8505344, 10126336] : List Int)).map (fun n => V.lit (.int .u32 n)) := (Option.some.inj ((show gl 0 = some _ from rfl).symm.trans hg)).symm
    subst e
    exact ZFj (P := Tryz.prog) (ks := ([0, 1788928, 3577856, 3003392, 7155712, 7764992, 6006784, 4252672, 14311424, 12659712, 15529984, 16233472, 12013568, 11279360, 8505344, 10126336] : List Int)) (tA := 296) (e := 22) (ik := .u32) (name := "wireless/crc.sums") (by kernel_rfl) (by kernel_rfl) (by kernel_rfl) (by kernel_rfl) (by kernel_rfl) (by kernel_rfl) h
  · exact absurd (hg.symm.trans (show gl g = none from if_neg h0)) (by simp)
theorem door_met (os : Os) (args : Array Value) : laidMetH Tryz.prog ZGE ((World.doorLaid Tryz.prog 400 os).forCall (fun _ _ => 0) ⟨#[], args, []⟩).memory :=
  laidMetH_of_parts3 (fuel := 8) (laidMet_of_run' 8 (by kernel_rfl) (by kernel_rfl)) (by kernel_rfl) (by kernel_rfl)
theorem lifted (os : Os) (started : os.Started) (H : Type) (enc : TypeId × Value -> H) :
    ReturnsInHanded {} Tryz.checked os 10 .any (fun w args => (Rows.linkEndsSpec.pre enc Tryz.prog Tryz.f10 [] false w args /\ laidMetH Tryz.prog ZGE w) /\ sizedMet enc Tryz.prog Tryz.f10 (OpenSpec.ofChange Rows.linkEndsSpec) false w args)
      (Rows.linkEndsSpec.post enc Tryz.prog Tryz.f10 false true false false) := by
  refine returnsInHanded_of_change_and (C := Tryz.checked) (X := fun w _ => laidMetH Tryz.prog ZGE w) (fun _ _ _ hh h => h.of_heap hh) own started (by kernel_rfl) Tryz.func10
    (ChangeSpec.witness_shaped (enc := enc) (C := Tryz.checked) (os := os) (X := fun w _ => laidMetH Tryz.prog ZGE w) false (World.doorLaid Tryz.prog 400 os) #[.agg #[.int .u32 0, .int .u32 0, .int .i64 0, .int .i64 0, .int .i64 0, .int .i64 0, .int .i64 0, .int .u64 0, .int .i64 0, .int .i64 0, .int .i64 0, .int .u64 0, .int .u64 0, .int .u64 0, .slice none 0 0, .int .i64 0, .int .i64 0], .int .i64 0, .agg #[.int .i64 0, .int .i64 0, .int .i64 0, .slice none 0 0, .int .i64 0, .int .i64 0, .int .i64 0, .int .i64 0, .int .i64 0, .int .u64 0, .int .u64 0, .int .u64 0], .slice none 0 0] 8 rfl (World.shaped_of_RefB (by kernel_rfl) (by kernel_rfl)) (by kernel_rfl) (by kernel_rfl) (by kernel_rfl) (door_met os _)) ?_
  intro W base args ds gs before hval hW _ _ hL _
  have hgs : gs.length = 0 := by
    obtain ⟨p, q, hA, hV, _⟩ := hW
    cases gs with
    | nil => rfl
    | cons g gs => exact hV.elim
  have hds : ds.length = 4 := by
    obtain ⟨p, q, hA, hV, _⟩ := hW
    exact ZnA hA
  exact ZKP (E0 := B0) (m := Z28) (fn := Tryz.f10) (tb := 4) (d := 12) ZiR (Zoo.cons (ZHi.rows (U := U) (t := 59) (c := ZKF) (wf := ZLb) (by kernel_rfl) (rd58 59 Tryz.underlying59 ⟨by kernel_rfl, by kernel_rfl⟩) (fun _ => rfl)) (Zoo.cons (ZHi.ones (U := U) (t := 3) (c := ZW) (wf := (WI .i64)) (by kernel_rfl) (ZM.int (t := 3) (by kernel_rfl)) (fun _ => rfl)) (Zoo.cons (ZHi.rows (U := U) (t := 83) (c := ZIb) (wf := ZKK) (by kernel_rfl) (rd82 83 Tryz.underlying83 ⟨by kernel_rfl, by kernel_rfl⟩) (fun _ => rfl)) (Zoo.cons (ZHi.ones (U := U) (t := 62) (c := (Za.list 5 1 (fun (a : Int) => cu8.ZK a) : Za Ty (List (Ty 5)))) (wf := (WL (WI .u8))) (by kernel_rfl) (ZM.ones (t := 62) (e := 5) (by kernel_rfl) (by kernel_rfl) (by kernel_rfl) (ZM.int (t := 5) (by kernel_rfl))) (fun _ => rfl)) Zoo.nil)))) rfl (by decide +kernel) laid (by decide +kernel) rfl (by kernel_rfl) (tt := true) rfl ZdO
    (fun ds gs h1 h2 => by
      match ds, gs, h1, h2 with
      | [d0, d1, d2, d3], [], _, _ => exact ⟨rfl, rfl, rfl⟩)
    (fun j t v h1 h2 => ⟨_, _, hval j t v h1 h2⟩) hW (of_laid hL) (fun W' _ pv h _ sp _ => by cases gs with | nil => exact h | cons g gs => exact h.elim) hds hgs
theorem over : Rows.linkEndsRow.holds Tryz.pinned (OpenSpec.ofChange Rows.linkEndsSpec) :=
  OpenClaim.holds_of_wide 10 Tryz.f10 rfl rfl rfl rfl rfl rfl rfl ⟨rfl, rfl, rfl, rfl, rfl⟩ rfl rfl rfl rfl rfl (by as_aux_lemma => kernel_rfl) Tryz.func10 closed
    (of_decide_eq_true (by as_aux_lemma => kernel_rfl)) (by unfold Func.isWrapper; first | (rw [if_pos (by decide +kernel)]; kernel_rfl) | (rw [if_neg (by decide +kernel)]; exact ⟨rfl, rfl⟩))
    (fun os started H enc _ => lifted os started H enc)
theorem card1 : Rows.linkEndsRow.wfByText (OpenSpec.ofChange Rows.linkEndsSpec) = true := by kernel_rfl
theorem card2 : Tryz.prog.mainIs = some (Rows.linkEndsCard.stood.harness.1, Rows.linkEndsCard.stood.harness.2.toList) := by kernel_rfl
theorem card3 : false = Tryz.prog.looks [] := by kernel_rfl
theorem card4 : false = Rows.linkEndsRow.goesBy Tryz.prog := by kernel_rfl
theorem card5 : (Tryz.f10.params.toList.all fun u => !Tryz.prog.wantsStandIn u) = true := by kernel_rfl
theorem card6 : Tryz.prog.funcNamed "wireless/wirelesslaw30.LinkEnds" = some 10 := by kernel_rfl
theorem card7 (f : FuncId) (fn : Func) (hf : Tryz.prog.funcNamed Rows.linkEndsRow.func = some f) (hfn : Tryz.prog.funcs[f]? = some fn) : false = Tryz.prog.looks [] /\ ∀ (j : Nat) t, fn.params[j]? = some t -> Tryz.prog.wantsStandIn t = false := by
  obtain rfl : f = 10 := Option.some.inj (card6.symm.trans hf) |>.symm
  obtain rfl : fn = Tryz.f10 := (Option.some.inj (Tryz.func10.symm.trans hfn)).symm
  refine ⟨card3, fun j t ht => ?_⟩
  have hm : t ∈ Tryz.f10.params.toList := Array.mem_toList_iff.2 (Array.mem_of_getElem? ht)
  have h : (!Tryz.prog.wantsStandIn t) = true := List.all_eq_true.1 card5 t hm
  cases hw : Tryz.prog.wantsStandIn t with
  | false => rfl
  | true => rw [hw] at h; cases h
theorem proved : Rows.LinkEndsCardSaid :=
  Claim7.holds_tied_plain_at .later [] [.data] true Rows.linkEndsCard.stood.harness false over (fun _ h => by cases h) card1 (fun _ h => by cases h) linkEnds_row_tie rfl ⟨rfl, rfl⟩ card2 rfl card7 card4
#print axioms proved
end Go.Proofs.YtjodhcdmhobmoaaGreatDoor.law10
