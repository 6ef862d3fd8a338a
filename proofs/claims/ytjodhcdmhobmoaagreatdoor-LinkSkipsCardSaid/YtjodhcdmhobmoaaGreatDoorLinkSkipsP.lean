/-
  A peripheral that occurs in a connection and skips exactly the events in which nothing has arrived and for which Skips holds never skips more consecutive events than its latency, whatever arrives in the others. No conditions but the ranges of the arguments' types and the row's own (the listed table of the program).
-/
import Derived.Test.YtjodhcdmhobmoaaGreatDoorRows
import Derived.Test.YtjodhcdmhobmoaaGreatDoorWQ3
import Derived.OpenShut
import Derived.Test.YtjodhcdmhobmoaaGreatDoorLinkSkipsFc
import Derived.Test.YtjodhcdmhobmoaaGreatDoorCards
import Derived.Test.YtjodhcdmhobmoaaGreatDoorTie
import Derived.Test.YtjodhcdmhobmoaaGreatDoorWL6
import Derived.ProofKit
import Derived.LaidMore
import Derived.Stop.Joined
import Derived.SevenTiedAt
set_option linter.unusedVariables false
set_option linter.unusedSimpArgs false
namespace Go.Proofs.YtjodhcdmhobmoaaGreatDoor.law9
open Go Go.Proofs.YtjodhcdmhobmoaaGreatDoor.Le Go.Proofs.YtjodhcdmhobmoaaGreatDoor
open Go.ChangeShapes Go.WideShapes Go.ChangeAt Go.RowKit
set_option maxRecDepth 100000
def yY (x : DR) : Prop := (WI .i64) x.FP /\ (WI .i64) x.FC /\ (WI .i64) x.E5 /\ (WI .i64) x.C9 /\ (WI .i64) x.FY /\ True
theorem seg23 : Du Tryz.prog (AL.pair BN (AL.pair BN (AL.pair BN (AL.pair BN (AL.pair BN AL.unit))))) [(0, 3), (1, 3), (2, 3), (3, 3), (4, 3)] 0 5 (fun x => yY (⟨x.1, x.2.1, x.2.2.1, x.2.2.2.1, x.2.2.2.2.1⟩)) := (Du.pair (off := 0) (k := 1) (DX.int (t := 3) (by kernel_rfl)) (by kernel_rfl) (Du.pair (off := 1) (k := 1) (DX.int (t := 3) (by kernel_rfl)) (by kernel_rfl) (Du.pair (off := 2) (k := 1) (DX.int (t := 3) (by kernel_rfl)) (by kernel_rfl) (Du.pair (off := 3) (k := 1) (DX.int (t := 3) (by kernel_rfl)) (by kernel_rfl) (Du.pair (off := 4) (k := 1) (DX.int (t := 3) (by kernel_rfl)) (by kernel_rfl) (Du.unit rfl))))))
theorem rd23 (t : Nat) {dd : TypeDesc} (ht : Tryz.prog.underlying t = some dd) (hs : (J9 Tryz.prog dd = some [(0, 3), (1, 3), (2, 3), (3, 3), (4, 3)]) /\ Tryz.prog.cellsOf t = 5) : DX Tryz.prog Nj t yY := (DX.row ht hs.1 hs.2 seg23).DC (fun _ => rfl)
def wf27 (x : FO) : Prop := (WI .u32) x.Jq /\ (WI .u32) x.VE /\ yY x.BL /\ (WI .u64) x.Map /\ (WI .i64) x.Hop /\ (WI .i64) x.PPM /\ (WI .i64) x.QL /\ True
theorem seg27 : Du Tryz.prog (AL.pair P6 (AL.pair P6 (AL.pair Nj (AL.pair Cc (AL.pair BN (AL.pair BN (AL.pair BN AL.unit))))))) [(0, 22), (1, 22), (2, 24), (7, 26), (8, 3), (9, 3), (10, 3)] 0 11 (fun x => wf27 (⟨x.1, x.2.1, x.2.2.1, x.2.2.2.1, x.2.2.2.2.1, x.2.2.2.2.2.1, x.2.2.2.2.2.2.1⟩)) := (Du.pair (off := 0) (k := 1) (DX.int (t := 22) (by kernel_rfl)) (by kernel_rfl) (Du.pair (off := 1) (k := 1) (DX.int (t := 22) (by kernel_rfl)) (by kernel_rfl) (Du.pair (off := 2) (k := 5) (rd23 24 Tryz.underlying24 ⟨by kernel_rfl, by kernel_rfl⟩) (by kernel_rfl) (Du.pair (off := 7) (k := 1) (DX.int (t := 26) (by kernel_rfl)) (by kernel_rfl) (Du.pair (off := 8) (k := 1) (DX.int (t := 3) (by kernel_rfl)) (by kernel_rfl) (Du.pair (off := 9) (k := 1) (DX.int (t := 3) (by kernel_rfl)) (by kernel_rfl) (Du.pair (off := 10) (k := 1) (DX.int (t := 3) (by kernel_rfl)) (by kernel_rfl) (Du.unit rfl))))))))
theorem rd27 (t : Nat) {dd : TypeDesc} (ht : Tryz.prog.underlying t = some dd) (hs : (J9 Tryz.prog dd = some [(0, 22), (1, 22), (2, 24), (7, 26), (8, 3), (9, 3), (10, 3)]) /\ Tryz.prog.cellsOf t = 11) : DX Tryz.prog Qo t wf27 := (DX.row ht hs.1 hs.2 seg27).DC (fun _ => rfl)
def wf56 (x : Z4z) : Prop := (WI .u64) x.x0 /\ (WI .u64) x.x1 /\ True
theorem seg56 : Du Tryz.prog (AL.pair Cc (AL.pair Cc AL.unit)) [(0, 29), (1, 29)] 0 2 (fun x => wf56 (⟨x.1, x.2.1⟩)) := (Du.pair (off := 0) (k := 1) (DX.int (t := 29) (by kernel_rfl)) (by kernel_rfl) (Du.pair (off := 1) (k := 1) (DX.int (t := 29) (by kernel_rfl)) (by kernel_rfl) (Du.unit rfl)))
theorem rd56 (t : Nat) {dd : TypeDesc} (ht : Tryz.prog.underlying t = some dd) (hs : (J9 Tryz.prog dd = some [(0, 29), (1, 29)]) /\ Tryz.prog.cellsOf t = 2) : DX Tryz.prog yT t wf56 := (DX.row ht hs.1 hs.2 seg56).DC (fun _ => rfl)
def wf67 (x : Az) : Prop := (WI .i64) x.Bz /\ (WL (WI .u8)) x.Payload /\ True
theorem seg67 : Du Tryz.prog (AL.pair BN (AL.pair (AL.list 5 1 (fun (a : Int) => Ee.Bc a) : AL Ty (List (Ty 5))) AL.unit)) [(0, 3), (1, 62)] 0 2 (fun x => wf67 (⟨x.1, x.2.1⟩)) := (Du.pair (off := 0) (k := 1) (DX.int (t := 3) (by kernel_rfl)) (by kernel_rfl) (Du.pair (off := 1) (k := 1) (DX.ones (t := 62) (e := 5) (by kernel_rfl) (by kernel_rfl) (by kernel_rfl) (DX.int (t := 5) (by kernel_rfl))) (by kernel_rfl) (Du.unit rfl)))
theorem rd67 (t : Nat) {dd : TypeDesc} (ht : Tryz.prog.underlying t = some dd) (hs : (J9 Tryz.prog dd = some [(0, 3), (1, 62)]) /\ Tryz.prog.cellsOf t = 2) : DX Tryz.prog Il t wf67 := (DX.row ht hs.1 hs.2 seg67).DC (fun _ => rfl)
def y9 (x : Hw) : Prop := (WI .i64) x.Side /\ (WI .i64) x.Kind /\ wf67 x.Aw /\ yY x.BL /\ (WI .u64) x.Map /\ (WI .u64) x.Number /\ (WI .u64) x.Key /\ True
theorem seg82 : Du Tryz.prog (AL.pair BN (AL.pair BN (AL.pair Il (AL.pair Nj (AL.pair Cc (AL.pair Cc (AL.pair Cc AL.unit))))))) [(0, 3), (1, 3), (2, 68), (4, 24), (9, 26), (10, 25), (11, 29)] 0 12 (fun x => y9 (⟨x.1, x.2.1, x.2.2.1, x.2.2.2.1, x.2.2.2.2.1, x.2.2.2.2.2.1, x.2.2.2.2.2.2.1⟩)) := (Du.pair (off := 0) (k := 1) (DX.int (t := 3) (by kernel_rfl)) (by kernel_rfl) (Du.pair (off := 1) (k := 1) (DX.int (t := 3) (by kernel_rfl)) (by kernel_rfl) (Du.pair (off := 2) (k := 2) (rd67 68 Tryz.underlying68 ⟨by kernel_rfl, by kernel_rfl⟩) (by kernel_rfl) (Du.pair (off := 4) (k := 5) (rd23 24 Tryz.underlying24 ⟨by kernel_rfl, by kernel_rfl⟩) (by kernel_rfl) (Du.pair (off := 9) (k := 1) (DX.int (t := 26) (by kernel_rfl)) (by kernel_rfl) (Du.pair (off := 10) (k := 1) (DX.int (t := 25) (by kernel_rfl)) (by kernel_rfl) (Du.pair (off := 11) (k := 1) (DX.int (t := 29) (by kernel_rfl)) (by kernel_rfl) (Du.unit rfl))))))))
theorem rd82 (t : Nat) {dd : TypeDesc} (ht : Tryz.prog.underlying t = some dd) (hs : (J9 Tryz.prog dd = some [(0, 3), (1, 3), (2, 68), (4, 24), (9, 26), (10, 25), (11, 29)]) /\ Tryz.prog.cellsOf t = 12) : DX Tryz.prog Sr t y9 := (DX.row ht hs.1 hs.2 seg82).DC (fun _ => rfl)
def Z4K (x : FT) : Prop := (WL y9) x.TB /\ (WI .i64) x.Xb /\ (WI .i64) x.Xf /\ True
theorem ZGr : Du Tryz.prog (AL.pair (AL.list 83 12 (fun (a : Hw) => .agg (Sr.BJ a)) : AL Ty (List (Ty 83))) (AL.pair BN (AL.pair BN AL.unit))) [(0, 111), (1, 3), (2, 3)] 0 3 (fun x => Z4K (⟨x.1, x.2.1, x.2.2.1⟩)) := (Du.pair (off := 0) (k := 1) (DX.rows (t := 111) (e := 83) (by kernel_rfl) (by kernel_rfl) (by kernel_rfl) (rd82 83 Tryz.underlying83 ⟨by kernel_rfl, by kernel_rfl⟩)) (by kernel_rfl) (Du.pair (off := 1) (k := 1) (DX.int (t := 3) (by kernel_rfl)) (by kernel_rfl) (Du.pair (off := 2) (k := 1) (DX.int (t := 3) (by kernel_rfl)) (by kernel_rfl) (Du.unit rfl))))
theorem rd112 (t : Nat) {dd : TypeDesc} (ht : Tryz.prog.underlying t = some dd) (hs : (J9 Tryz.prog dd = some [(0, 111), (1, 3), (2, 3)]) /\ Tryz.prog.cellsOf t = 3) : DX Tryz.prog SQ t Z4K := (DX.row ht hs.1 hs.2 ZGr).DC (fun _ => rfl)
def kH (x : JV) : Prop := wf27 x.Df /\ wf56 x.Keys /\ (WI .u64) x.Hq /\ (WL Z4K) x.Events /\ (WI .i64) x.CB /\ (WI .i64) x.Aw /\ True
theorem seg58 : Du Tryz.prog (AL.pair Qo (AL.pair yT (AL.pair Cc (AL.pair (AL.list 113 3 (fun (a : FT) => .agg (SQ.BJ a)) : AL Ty (List (Ty 113))) (AL.pair BN (AL.pair BN AL.unit)))))) [(0, 28), (11, 56), (13, 25), (14, 57), (15, 3), (16, 3)] 0 17 (fun x => kH (⟨x.1, x.2.1, x.2.2.1, x.2.2.2.1, x.2.2.2.2.1, x.2.2.2.2.2.1⟩)) := (Du.pair (off := 0) (k := 11) (rd27 28 Tryz.underlying28 ⟨by kernel_rfl, by kernel_rfl⟩) (by kernel_rfl) (Du.pair (off := 11) (k := 2) (rd56 56 Tryz.underlying56 ⟨by kernel_rfl, by kernel_rfl⟩) (by kernel_rfl) (Du.pair (off := 13) (k := 1) (DX.int (t := 25) (by kernel_rfl)) (by kernel_rfl) (Du.pair (off := 14) (k := 1) (DX.rows (t := 57) (e := 113) (by kernel_rfl) (by kernel_rfl) (by kernel_rfl) (rd112 113 Tryz.underlying113 ⟨by kernel_rfl, by kernel_rfl⟩)) (by kernel_rfl) (Du.pair (off := 15) (k := 1) (DX.int (t := 3) (by kernel_rfl)) (by kernel_rfl) (Du.pair (off := 16) (k := 1) (DX.int (t := 3) (by kernel_rfl)) (by kernel_rfl) (Du.unit rfl)))))))
theorem rd58 (t : Nat) {dd : TypeDesc} (ht : Tryz.prog.underlying t = some dd) (hs : (J9 Tryz.prog dd = some [(0, 28), (11, 56), (13, 25), (14, 57), (15, 3), (16, 3)]) /\ Tryz.prog.cellsOf t = 17) : DX Tryz.prog Xl t kH := (DX.row ht hs.1 hs.2 seg58).DC (fun _ => rfl)
def WfL (x : Fa U Ym.ts) : Prop := kH x.1 /\ (WL WB) x.2.1 /\ True
theorem wi8 {a : Int} (h : WI .u8 a) : R8 a := by
  simp only [WI, Lit.wf, Bool.and_eq_true, decide_eq_true_eq] at h
  have h1 : (IntKind.u8.min) = 0 := rfl
  have h2 : (IntKind.u8.max) = 255 := rfl
  rw [h1, h2] at h
  unfold R8
  omega
theorem wi32 {a : Int} (h : WI .u32 a) : R32 a := by
  simp only [WI, Lit.wf, Bool.and_eq_true, decide_eq_true_eq] at h
  have h1 : (IntKind.u32.min) = 0 := rfl
  have h2 : (IntKind.u32.max) = 4294967295 := rfl
  rw [h1, h2] at h
  unfold R32
  omega
theorem Xi {a : Int} (h : WI .u64 a) : CO a := by
  simp only [WI, Lit.wf, Bool.and_eq_true, decide_eq_true_eq] at h
  have h1 : (IntKind.u64.min) = 0 := rfl
  have h2 : (IntKind.u64.max) = 18446744073709551615 := rfl
  rw [h1, h2] at h
  unfold CO
  omega
theorem ZGM {a : Hw} (h : y9 a) : zN a := ⟨fun b hb => wi8 (h.2.2.1.2.1.2 b hb), Xi h.2.2.2.2.1, Xi h.2.2.2.2.2.1, Xi h.2.2.2.2.2.2.1⟩
theorem ZH9 {x : JV} (h : kH x) : EE x :=
  ⟨⟨wi32 h.1.1, wi32 h.1.2.1, Xi h.1.2.2.2.1⟩, Xi h.2.1.1, Xi h.2.1.2.1, fun e he a ha => ZGM ((h.2.2.2.1.2 e he).1.2 a ha)⟩
theorem Zle (x : Fa U Ym.ts) (h : WfL x) : Ym.fn x = some true := by
  obtain ⟨r, h1, h2⟩ := Zoi x.1 x.2.1 (ZH9 h.1)
  subst h2
  exact h1
theorem own : ownKnob Tryz.prog.godebug = none := by kernel_rfl
theorem laid : laidOutB Tryz.prog = true := by kernel_rfl
def jW : List (String × DataW Unit) := [("wireless/crc.sums", Rows.laid_wireless_crc_sums)]
theorem of_laid {W : World} (h : laidMetH Tryz.prog jW W) : EK B0 (bare (NT W)) W := fun g r hg => by
  by_cases h0 : g = 0
  · subst h0
    have e : r = (([0, 1788928, 3577856, 3003392, 7155712, 7764992, 6006784, 4252672, 14311424, 12659712, 15529984, 16233472, 12013568, 11279360, 8505344, 10126336] : List Int)).map (fun n => V.lit (.int .u32 n)) := (Option.some.inj ((show gl 0 = some _ from rfl).symm.trans hg)).symm
    subst e
    exact ZAy (P := Tryz.prog) (ks := ([0, 1788928, 3577856, 3003392, 7155712, 7764992, 6006784, 4252672, 14311424, 12659712, 15529984, 16233472, 12013568, 11279360, 8505344, 10126336] : List Int)) (tA := 296) (e := 22) (ik := .u32) (name := "wireless/crc.sums") (by kernel_rfl) (by kernel_rfl) (by kernel_rfl) (by kernel_rfl) (by kernel_rfl) (by kernel_rfl) h
  · exact absurd (hg.symm.trans (show gl g = none from if_neg h0)) (by simp)
theorem door_met (os : Os) (args : Array Value) : laidMetH Tryz.prog jW ((World.doorLaid Tryz.prog 400 os).forCall (fun _ _ => 0) ⟨#[], args, []⟩).memory :=
  laidMetH_of_parts3 (fuel := 8) (laidMet_of_run' 8 (by kernel_rfl) (by kernel_rfl)) (by kernel_rfl) (by kernel_rfl)
theorem lifted (os : Os) (started : os.Started) (H : Type) (enc : TypeId × Value -> H) :
    ReturnsInHanded {} Tryz.checked os 9 .any (fun w args => (Rows.linkSkipsSpec.pre enc Tryz.prog Tryz.f9 [] false w args /\ laidMetH Tryz.prog jW w) /\ sizedMet enc Tryz.prog Tryz.f9 (OpenSpec.ofChange Rows.linkSkipsSpec) false w args)
      (Rows.linkSkipsSpec.post enc Tryz.prog Tryz.f9 false true false false) := by
  refine returnsInHanded_of_change_and (C := Tryz.checked) (X := fun w _ => laidMetH Tryz.prog jW w) (fun _ _ _ hh h => h.of_heap hh) own started (by kernel_rfl) Tryz.func9
    (ChangeSpec.witness_shaped (enc := enc) (C := Tryz.checked) (os := os) (X := fun w _ => laidMetH Tryz.prog jW w) false (World.doorLaid Tryz.prog 400 os) #[.agg #[.int .u32 0, .int .u32 0, .int .i64 0, .int .i64 0, .int .i64 0, .int .i64 0, .int .i64 0, .int .u64 0, .int .i64 0, .int .i64 0, .int .i64 0, .int .u64 0, .int .u64 0, .int .u64 0, .slice none 0 0, .int .i64 0, .int .i64 0], .slice none 0 0] 8 rfl (World.shaped_of_RefB (by kernel_rfl) (by kernel_rfl)) (by kernel_rfl) (by kernel_rfl) (by kernel_rfl) (door_met os _)) ?_
  intro W base args ds gs before hval hW _ _ hL _
  have hgs : gs.length = 0 := by
    obtain ⟨p, q, hA, hV, _⟩ := hW
    cases gs with
    | nil => rfl
    | cons g gs => exact hV.elim
  have hds : ds.length = 2 := by
    obtain ⟨p, q, hA, hV, _⟩ := hW
    exact ZcQ hA
  exact ZGB (E0 := B0) (m := Ym) (fn := Tryz.f9) (tb := 4) (d := 12) Zmp (Sj.cons (VD.rows (U := U) (t := 59) (c := Xl) (wf := kH) (by kernel_rfl) (rd58 59 Tryz.underlying59 ⟨by kernel_rfl, by kernel_rfl⟩) (fun _ => rfl)) (Sj.cons (VD.ones (U := U) (t := 89) (c := (AL.list 4 1 (fun (a : Bool) => Dh.Bc a) : AL Ty (List (Ty 4)))) (wf := (WL WB)) (by kernel_rfl) (DX.ones (t := 89) (e := 4) (by kernel_rfl) (by kernel_rfl) (by kernel_rfl) (DX.bool (t := 4) (by kernel_rfl))) (fun _ => rfl)) Sj.nil)) rfl (by decide +kernel) laid (by decide +kernel) rfl (by kernel_rfl) (tt := true) rfl Zle
    (fun ds gs h1 h2 => by
      match ds, gs, h1, h2 with
      | [d0, d1], [], _, _ => exact ⟨rfl, rfl, rfl⟩)
    (fun j t v h1 h2 => ⟨_, _, hval j t v h1 h2⟩) hW (of_laid hL) (fun W' _ pv h _ sp _ => by cases gs with | nil => exact h | cons g gs => exact h.elim) hds hgs
theorem over : Rows.linkSkipsRow.holds Tryz.pinned (OpenSpec.ofChange Rows.linkSkipsSpec) :=
  OpenClaim.holds_of_wide 9 Tryz.f9 rfl rfl rfl rfl rfl rfl rfl ⟨rfl, rfl, rfl, rfl, rfl⟩ rfl rfl rfl rfl rfl (by as_aux_lemma => kernel_rfl) Tryz.func9 closed
    (of_decide_eq_true (by as_aux_lemma => kernel_rfl)) (by unfold Func.isWrapper; first | (rw [if_pos (by decide +kernel)]; kernel_rfl) | (rw [if_neg (by decide +kernel)]; exact ⟨rfl, rfl⟩))
    (fun os started H enc _ => lifted os started H enc)
theorem card1 : Rows.linkSkipsRow.wfByText (OpenSpec.ofChange Rows.linkSkipsSpec) = true := by kernel_rfl
theorem card2 : Tryz.prog.mainIs = some (Rows.linkSkipsCard.stood.harness.1, Rows.linkSkipsCard.stood.harness.2.toList) := by kernel_rfl
theorem card3 : false = Tryz.prog.looks [] := by kernel_rfl
theorem card4 : false = Rows.linkSkipsRow.goesBy Tryz.prog := by kernel_rfl
theorem card5 : (Tryz.f9.params.toList.all fun u => !Tryz.prog.wantsStandIn u) = true := by kernel_rfl
theorem card6 : Tryz.prog.funcNamed "wireless/wirelesslaw30.LinkSkips" = some 9 := by kernel_rfl
theorem card7 (f : FuncId) (fn : Func) (hf : Tryz.prog.funcNamed Rows.linkSkipsRow.func = some f) (hfn : Tryz.prog.funcs[f]? = some fn) : false = Tryz.prog.looks [] /\ ∀ (j : Nat) t, fn.params[j]? = some t -> Tryz.prog.wantsStandIn t = false := by
  obtain rfl : f = 9 := Option.some.inj (card6.symm.trans hf) |>.symm
  obtain rfl : fn = Tryz.f9 := (Option.some.inj (Tryz.func9.symm.trans hfn)).symm
  refine ⟨card3, fun j t ht => ?_⟩
  have hm : t ∈ Tryz.f9.params.toList := Array.mem_toList_iff.2 (Array.mem_of_getElem? ht)
  have h : (!Tryz.prog.wantsStandIn t) = true := List.all_eq_true.1 card5 t hm
  cases hw : Tryz.prog.wantsStandIn t with
  | false => rfl
  | true => rw [hw] at h; cases h
theorem proved : Rows.LinkSkipsCardSaid :=
  Claim7.holds_tied_plain_at .later [] [.data] true Rows.linkSkipsCard.stood.harness false over (fun _ h => by cases h) card1 (fun _ h => by cases h) linkSkips_row_tie rfl ⟨rfl, rfl⟩ card2 rfl card7 card4
#print axioms proved
end Go.Proofs.YtjodhcdmhobmoaaGreatDoor.law9
