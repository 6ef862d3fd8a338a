/-
  Any request of the upper layers of a side that occurs in a connection comes to what the document says, with its error. No conditions but the ranges of the arguments' types and the row's own (the listed table of the program).
-/
import Derived.Test.YtjodhcdmhobmoaaGreatDoorRows
import Derived.Test.YtjodhcdmhobmoaaGreatDoorDQ2
import Derived.OpenShut
import Derived.Test.YtjodhcdmhobmoaaGreatDoorLinkDoesFc
import Derived.Test.YtjodhcdmhobmoaaGreatDoorCards
import Derived.Test.YtjodhcdmhobmoaaGreatDoorTie
import Derived.Test.YtjodhcdmhobmoaaGreatDoorDL6
import Derived.ProofKit
import Derived.LaidMore
import Derived.Stop.Joined
import Derived.SevenTiedAt
set_option linter.unusedVariables false
set_option linter.unusedSimpArgs false
namespace Go.Proofs.YtjodhcdmhobmoaaGreatDoor.law7
open Go Go.Proofs.YtjodhcdmhobmoaaGreatDoor.Le Go.Proofs.YtjodhcdmhobmoaaGreatDoor
open Go.ChangeShapes Go.WideShapes Go.ChangeAt Go.RowKit
set_option maxRecDepth 100000
def vG (x : DT) : Prop := (WI .i64) x.EX /\ (WI .i64) x.EW /\ (WI .i64) x.Dp /\ (WI .i64) x.Dq /\ (WI .i64) x.Ei /\ True
theorem seg23 : D6 Tryz.prog (AO.pair BN (AO.pair BN (AO.pair BN (AO.pair BN (AO.pair BN AO.unit))))) [(0, 3), (1, 3), (2, 3), (3, 3), (4, 3)] 0 5 (fun x => vG (⟨x.1, x.2.1, x.2.2.1, x.2.2.2.1, x.2.2.2.2.1⟩)) := (D6.pair (off := 0) (k := 1) (DI.int (t := 3) (by kernel_rfl)) (by kernel_rfl) (D6.pair (off := 1) (k := 1) (DI.int (t := 3) (by kernel_rfl)) (by kernel_rfl) (D6.pair (off := 2) (k := 1) (DI.int (t := 3) (by kernel_rfl)) (by kernel_rfl) (D6.pair (off := 3) (k := 1) (DI.int (t := 3) (by kernel_rfl)) (by kernel_rfl) (D6.pair (off := 4) (k := 1) (DI.int (t := 3) (by kernel_rfl)) (by kernel_rfl) (D6.unit rfl))))))
theorem rd23 (t : Nat) {dd : TypeDesc} (ht : Tryz.prog.underlying t = some dd) (hs : (Ir Tryz.prog dd = some [(0, 3), (1, 3), (2, 3), (3, 3), (4, 3)]) /\ Tryz.prog.cellsOf t = 5) : DI Tryz.prog ML t vG := (DI.row ht hs.1 hs.2 seg23).CY (fun _ => rfl)
def wf27 (x : Fa) : Prop := (WI .u32) x.P5 /\ (WI .u32) x.Qz /\ vG x.BG /\ (WI .u64) x.Map /\ (WI .i64) x.Hop /\ (WI .i64) x.iM /\ (WI .i64) x.SG /\ True
theorem seg27 : D6 Tryz.prog (AO.pair Oa (AO.pair Oa (AO.pair ML (AO.pair DL (AO.pair BN (AO.pair BN (AO.pair BN AO.unit))))))) [(0, 22), (1, 22), (2, 24), (7, 26), (8, 3), (9, 3), (10, 3)] 0 11 (fun x => wf27 (⟨x.1, x.2.1, x.2.2.1, x.2.2.2.1, x.2.2.2.2.1, x.2.2.2.2.2.1, x.2.2.2.2.2.2.1⟩)) := (D6.pair (off := 0) (k := 1) (DI.int (t := 22) (by kernel_rfl)) (by kernel_rfl) (D6.pair (off := 1) (k := 1) (DI.int (t := 22) (by kernel_rfl)) (by kernel_rfl) (D6.pair (off := 2) (k := 5) (rd23 24 Tryz.underlying24 ⟨by kernel_rfl, by kernel_rfl⟩) (by kernel_rfl) (D6.pair (off := 7) (k := 1) (DI.int (t := 26) (by kernel_rfl)) (by kernel_rfl) (D6.pair (off := 8) (k := 1) (DI.int (t := 3) (by kernel_rfl)) (by kernel_rfl) (D6.pair (off := 9) (k := 1) (DI.int (t := 3) (by kernel_rfl)) (by kernel_rfl) (D6.pair (off := 10) (k := 1) (DI.int (t := 3) (by kernel_rfl)) (by kernel_rfl) (D6.unit rfl))))))))
theorem rd27 (t : Nat) {dd : TypeDesc} (ht : Tryz.prog.underlying t = some dd) (hs : (Ir Tryz.prog dd = some [(0, 22), (1, 22), (2, 24), (7, 26), (8, 3), (9, 3), (10, 3)]) /\ Tryz.prog.cellsOf t = 11) : DI Tryz.prog Pv t wf27 := (DI.row ht hs.1 hs.2 seg27).CY (fun _ => rfl)
def wf56 (x : Z3K) : Prop := (WI .u64) x.x0 /\ (WI .u64) x.x1 /\ True
theorem seg56 : D6 Tryz.prog (AO.pair DL (AO.pair DL AO.unit)) [(0, 29), (1, 29)] 0 2 (fun x => wf56 (⟨x.1, x.2.1⟩)) := (D6.pair (off := 0) (k := 1) (DI.int (t := 29) (by kernel_rfl)) (by kernel_rfl) (D6.pair (off := 1) (k := 1) (DI.int (t := 29) (by kernel_rfl)) (by kernel_rfl) (D6.unit rfl)))
theorem rd56 (t : Nat) {dd : TypeDesc} (ht : Tryz.prog.underlying t = some dd) (hs : (Ir Tryz.prog dd = some [(0, 29), (1, 29)]) /\ Tryz.prog.cellsOf t = 2) : DI Tryz.prog vJ t wf56 := (DI.row ht hs.1 hs.2 seg56).CY (fun _ => rfl)
def wf67 (x : BB) : Prop := (WI .i64) x.CQ /\ (WL (WI .u8)) x.Payload /\ True
theorem seg67 : D6 Tryz.prog (AO.pair BN (AO.pair (AO.list 5 1 (fun (a : Int) => Ej.BV a) : AO Ty (List (Ty 5))) AO.unit)) [(0, 3), (1, 62)] 0 2 (fun x => wf67 (⟨x.1, x.2.1⟩)) := (D6.pair (off := 0) (k := 1) (DI.int (t := 3) (by kernel_rfl)) (by kernel_rfl) (D6.pair (off := 1) (k := 1) (DI.ones (t := 62) (e := 5) (by kernel_rfl) (by kernel_rfl) (by kernel_rfl) (DI.int (t := 5) (by kernel_rfl))) (by kernel_rfl) (D6.unit rfl)))
theorem rd67 (t : Nat) {dd : TypeDesc} (ht : Tryz.prog.underlying t = some dd) (hs : (Ir Tryz.prog dd = some [(0, 3), (1, 62)]) /\ Tryz.prog.cellsOf t = 2) : DI Tryz.prog II t wf67 := (DI.row ht hs.1 hs.2 seg67).CY (fun _ => rfl)
def TT (x : EN) : Prop := (WI .i64) x.Side /\ (WI .i64) x.Kind /\ wf67 x.BU /\ vG x.BG /\ (WI .u64) x.Map /\ (WI .u64) x.Number /\ (WI .u64) x.Key /\ True
theorem seg82 : D6 Tryz.prog (AO.pair BN (AO.pair BN (AO.pair II (AO.pair ML (AO.pair DL (AO.pair DL (AO.pair DL AO.unit))))))) [(0, 3), (1, 3), (2, 68), (4, 24), (9, 26), (10, 25), (11, 29)] 0 12 (fun x => TT (⟨x.1, x.2.1, x.2.2.1, x.2.2.2.1, x.2.2.2.2.1, x.2.2.2.2.2.1, x.2.2.2.2.2.2.1⟩)) := (D6.pair (off := 0) (k := 1) (DI.int (t := 3) (by kernel_rfl)) (by kernel_rfl) (D6.pair (off := 1) (k := 1) (DI.int (t := 3) (by kernel_rfl)) (by kernel_rfl) (D6.pair (off := 2) (k := 2) (rd67 68 Tryz.underlying68 ⟨by kernel_rfl, by kernel_rfl⟩) (by kernel_rfl) (D6.pair (off := 4) (k := 5) (rd23 24 Tryz.underlying24 ⟨by kernel_rfl, by kernel_rfl⟩) (by kernel_rfl) (D6.pair (off := 9) (k := 1) (DI.int (t := 26) (by kernel_rfl)) (by kernel_rfl) (D6.pair (off := 10) (k := 1) (DI.int (t := 25) (by kernel_rfl)) (by kernel_rfl) (D6.pair (off := 11) (k := 1) (DI.int (t := 29) (by kernel_rfl)) (by kernel_rfl) (D6.unit rfl))))))))
theorem rd82 (t : Nat) {dd : TypeDesc} (ht : Tryz.prog.underlying t = some dd) (hs : (Ir Tryz.prog dd = some [(0, 3), (1, 3), (2, 68), (4, 24), (9, 26), (10, 25), (11, 29)]) /\ Tryz.prog.cellsOf t = 12) : DI Tryz.prog Pm t TT := (DI.row ht hs.1 hs.2 seg82).CY (fun _ => rfl)
def Z4o (x : Em) : Prop := (WL TT) x.RG /\ (WI .i64) x.Vu /\ (WI .i64) x.Vm /\ True
theorem ZD8 : D6 Tryz.prog (AO.pair (AO.list 83 12 (fun (a : EN) => .agg (Pm.BJ a)) : AO Ty (List (Ty 83))) (AO.pair BN (AO.pair BN AO.unit))) [(0, 111), (1, 3), (2, 3)] 0 3 (fun x => Z4o (⟨x.1, x.2.1, x.2.2.1⟩)) := (D6.pair (off := 0) (k := 1) (DI.rows (t := 111) (e := 83) (by kernel_rfl) (by kernel_rfl) (by kernel_rfl) (rd82 83 Tryz.underlying83 ⟨by kernel_rfl, by kernel_rfl⟩)) (by kernel_rfl) (D6.pair (off := 1) (k := 1) (DI.int (t := 3) (by kernel_rfl)) (by kernel_rfl) (D6.pair (off := 2) (k := 1) (DI.int (t := 3) (by kernel_rfl)) (by kernel_rfl) (D6.unit rfl))))
theorem rd112 (t : Nat) {dd : TypeDesc} (ht : Tryz.prog.underlying t = some dd) (hs : (Ir Tryz.prog dd = some [(0, 111), (1, 3), (2, 3)]) /\ Tryz.prog.cellsOf t = 3) : DI Tryz.prog Qp t Z4o := (DI.row ht hs.1 hs.2 ZD8).CY (fun _ => rfl)
def gG (x : Il) : Prop := wf27 x.CZ /\ wf56 x.Keys /\ (WI .u64) x.Eg /\ (WL Z4o) x.Events /\ (WI .i64) x.BR /\ (WI .i64) x.BU /\ True
theorem seg58 : D6 Tryz.prog (AO.pair Pv (AO.pair vJ (AO.pair DL (AO.pair (AO.list 113 3 (fun (a : Em) => .agg (Qp.BJ a)) : AO Ty (List (Ty 113))) (AO.pair BN (AO.pair BN AO.unit)))))) [(0, 28), (11, 56), (13, 25), (14, 57), (15, 3), (16, 3)] 0 17 (fun x => gG (⟨x.1, x.2.1, x.2.2.1, x.2.2.2.1, x.2.2.2.2.1, x.2.2.2.2.2.1⟩)) := (D6.pair (off := 0) (k := 11) (rd27 28 Tryz.underlying28 ⟨by kernel_rfl, by kernel_rfl⟩) (by kernel_rfl) (D6.pair (off := 11) (k := 2) (rd56 56 Tryz.underlying56 ⟨by kernel_rfl, by kernel_rfl⟩) (by kernel_rfl) (D6.pair (off := 13) (k := 1) (DI.int (t := 25) (by kernel_rfl)) (by kernel_rfl) (D6.pair (off := 14) (k := 1) (DI.rows (t := 57) (e := 113) (by kernel_rfl) (by kernel_rfl) (by kernel_rfl) (rd112 113 Tryz.underlying113 ⟨by kernel_rfl, by kernel_rfl⟩)) (by kernel_rfl) (D6.pair (off := 15) (k := 1) (DI.int (t := 3) (by kernel_rfl)) (by kernel_rfl) (D6.pair (off := 16) (k := 1) (DI.int (t := 3) (by kernel_rfl)) (by kernel_rfl) (D6.unit rfl)))))))
theorem rd58 (t : Nat) {dd : TypeDesc} (ht : Tryz.prog.underlying t = some dd) (hs : (Ir Tryz.prog dd = some [(0, 28), (11, 56), (13, 25), (14, 57), (15, 3), (16, 3)]) /\ Tryz.prog.cellsOf t = 17) : DI Tryz.prog Vg t gG := (DI.row ht hs.1 hs.2 seg58).CY (fun _ => rfl)
def WfL (x : F9 U Wi.ts) : Prop := gG x.1 /\ TT x.2.1 /\ True
theorem wi8 {a : Int} (h : WI .u8 a) : R8 a := by
  simp only [WI, Lit.wf, Bool.and_eq_true, decide_eq_true_eq] at h
  have h1 : (IntKind.u8.min) = 0 := rfl
  have h2 : (IntKind.u8.max) = 255 := rfl
  rw [h1, h2] at h
  unfold R8
  omega
theorem wi32 {a : Int} (h : WI .u32 a) : R32 a := by
  simp only [WI, Lit.wf, Bool.and_eq_true, decide_eq_true_eq] at h
  have h1 : (IntKind.u32.min) = 0 := rfl
  have h2 : (IntKind.u32.max) = 4294967295 := rfl
  rw [h1, h2] at h
  unfold R32
  omega
theorem Vs {a : Int} (h : WI .u64 a) : Bv a := by
  simp only [WI, Lit.wf, Bool.and_eq_true, decide_eq_true_eq] at h
  have h1 : (IntKind.u64.min) = 0 := rfl
  have h2 : (IntKind.u64.max) = 18446744073709551615 := rfl
  rw [h1, h2] at h
  unfold Bv
  omega
theorem Ze8 {a : EN} (h : TT a) : Pz a := ⟨fun b hb => wi8 (h.2.2.1.2.1.2 b hb), Vs h.2.2.2.2.1, Vs h.2.2.2.2.2.1, Vs h.2.2.2.2.2.2.1⟩
theorem ZEH {x : Il} (h : gG x) : ES x :=
  ⟨⟨wi32 h.1.1, wi32 h.1.2.1, Vs h.1.2.2.2.1⟩, Vs h.2.1.1, Vs h.2.1.2.1, fun e he a ha => Ze8 ((h.2.2.2.1.2 e he).1.2 a ha)⟩
theorem iG {a : Int} (h : WI .i64 a) : I64 a := by
  simp only [WI, Lit.wf, Bool.and_eq_true, decide_eq_true_eq] at h
  have h1 : (IntKind.i64.min) = -9223372036854775808 := rfl
  have h2 : (IntKind.i64.max) = 9223372036854775807 := rfl
  rw [h1, h2] at h
  unfold I64
  omega
theorem up_ok {a : EN} (h : TT a) : RI a.BG := ⟨iG h.2.2.2.1.1, iG h.2.2.2.1.2.1, iG h.2.2.2.1.2.2.1, iG h.2.2.2.1.2.2.2.1, iG h.2.2.2.1.2.2.2.2.1⟩
theorem ZgR (x : F9 U Wi.ts) (h : WfL x) : Wi.fn x = some true := by
  obtain ⟨r, h1, h2⟩ := ZkB x.1 x.2.1 (ZEH h.1) (Ze8 h.2.1) (up_ok h.2.1)
  subst h2
  exact h1
theorem own : ownKnob Tryz.prog.godebug = none := by kernel_rfl
theorem laid : laidOutB Tryz.prog = true := by kernel_rfl
def fU : List (String × DataW Unit) := [("wireless/crc.sums", Rows.laid_wireless_crc_sums)]
theorem of_laid {W : World} (h : laidMetH Tryz.prog fU W) : Di B0 (bare (MB W)) W := fun g r hg => by
  by_cases h0 : g = 0
  · subst h0
    have e : r = (([0, 1788928, 3577856, 3003392, 7155712, 7764992, 6006784, 4252672, 14311424, 12659712, 15529984, 16233472, 12013568, 11279360, 8505344, 10126336] : List Int)).map (fun n => V.lit (.int .u32 n)) := (Option.some.inj ((show gl 0 = some _ from rfl).symm.trans hg)).symm
    subst e
    exact Zym (P := Tryz.prog) (ks := ([0, 1788928, 3577856, 3003392, 7155712, 7764992, 6006784, 4252672, 14311424, 12659712, 15529984, 16233472, 12013568, 11279360, 8505344, 10126336] : List Int)) (tA := 296) (e := 22) (ik := .u32) (name := "wireless/crc.sums") (by kernel_rfl) (by kernel_rfl) (by kernel_rfl) (by kernel_rfl) (by kernel_rfl) (by kernel_rfl) h
  · exact absurd (hg.symm.trans (show gl g = none from if_neg h0)) (by simp)
theorem door_met (os : Os) (args : Array Value) : laidMetH Tryz.prog fU ((World.doorLaid Tryz.prog 400 os).forCall (fun _ _ => 0) ⟨#[], args, []⟩).memory :=
  laidMetH_of_parts3 (fuel := 8) (laidMet_of_run' 8 (by kernel_rfl) (by kernel_rfl)) (by kernel_rfl) (by kernel_rfl)
theorem lifted (os : Os) (started : os.Started) (H : Type) (enc : TypeId × Value -> H) :
    ReturnsInHanded {} Tryz.checked os 7 .any (fun w args => (Rows.linkDoesSpec.pre enc Tryz.prog Tryz.f7 [] false w args /\ laidMetH Tryz.prog fU w) /\ sizedMet enc Tryz.prog Tryz.f7 (OpenSpec.ofChange Rows.linkDoesSpec) false w args)
      (Rows.linkDoesSpec.post enc Tryz.prog Tryz.f7 false true false false) := by
  refine returnsInHanded_of_change_and (C := Tryz.checked) (X := fun w _ => laidMetH Tryz.prog fU w) (fun _ _ _ hh h => h.of_heap hh) own started (by kernel_rfl) Tryz.func7
    (ChangeSpec.witness_shaped (enc := enc) (C := Tryz.checked) (os := os) (X := fun w _ => laidMetH Tryz.prog fU w) false (World.doorLaid Tryz.prog 400 os) #[.agg #[.int .u32 0, .int .u32 0, .int .i64 0, .int .i64 0, .int .i64 0, .int .i64 0, .int .i64 0, .int .u64 0, .int .i64 0, .int .i64 0, .int .i64 0, .int .u64 0, .int .u64 0, .int .u64 0, .slice none 0 0, .int .i64 0, .int .i64 0], .agg #[.int .i64 0, .int .i64 0, .int .i64 0, .slice none 0 0, .int .i64 0, .int .i64 0, .int .i64 0, .int .i64 0, .int .i64 0, .int .u64 0, .int .u64 0, .int .u64 0]] 8 rfl (World.shaped_of_RefB (by kernel_rfl) (by kernel_rfl)) (by kernel_rfl) (by kernel_rfl) (by kernel_rfl) (door_met os _)) ?_
  intro W base args ds gs before hval hW _ _ hL _
  have hgs : gs.length = 0 := by
    obtain ⟨p, q, hA, hV, _⟩ := hW
    cases gs with
    | nil => rfl
    | cons g gs => exact hV.elim
  have hds : ds.length = 2 := by
    obtain ⟨p, q, hA, hV, _⟩ := hW
    exact Z9J hA
  exact ZDi (E0 := B0) (m := Wi) (fn := Tryz.f7) (tb := 4) (d := 12) Zjv (Qr.cons (TS.rows (U := U) (t := 59) (c := Vg) (wf := gG) (by kernel_rfl) (rd58 59 Tryz.underlying59 ⟨by kernel_rfl, by kernel_rfl⟩) (fun _ => rfl)) (Qr.cons (TS.rows (U := U) (t := 83) (c := Pm) (wf := TT) (by kernel_rfl) (rd82 83 Tryz.underlying83 ⟨by kernel_rfl, by kernel_rfl⟩) (fun _ => rfl)) Qr.nil)) rfl (by decide +kernel) laid (by decide +kernel) rfl (by kernel_rfl) (tt := true) rfl ZgR
    (fun ds gs h1 h2 => by
      match ds, gs, h1, h2 with
      | [d0, d1], [], _, _ => exact ⟨rfl, rfl, rfl⟩)
    (fun j t v h1 h2 => ⟨_, _, hval j t v h1 h2⟩) hW (of_laid hL) (fun W' _ pv h _ sp _ => by cases gs with | nil => exact h | cons g gs => exact h.elim) hds hgs
theorem over : Rows.linkDoesRow.holds Tryz.pinned (OpenSpec.ofChange Rows.linkDoesSpec) :=
  OpenClaim.holds_of_wide 7 Tryz.f7 rfl rfl rfl rfl rfl rfl rfl ⟨rfl, rfl, rfl, rfl, rfl⟩ rfl rfl rfl rfl rfl (by as_aux_lemma => kernel_rfl) Tryz.func7 closed
    (of_decide_eq_true (by as_aux_lemma => kernel_rfl)) (by unfold Func.isWrapper; first | (rw [if_pos (by decide +kernel)]; kernel_rfl) | (rw [if_neg (by decide +kernel)]; exact ⟨rfl, rfl⟩))
    (fun os started H enc _ => lifted os started H enc)
theorem card1 : Rows.linkDoesRow.wfByText (OpenSpec.ofChange Rows.linkDoesSpec) = true := by kernel_rfl
theorem card2 : Tryz.prog.mainIs = some (Rows.linkDoesCard.stood.harness.1, Rows.linkDoesCard.stood.harness.2.toList) := by kernel_rfl
theorem card3 : false = Tryz.prog.looks [] := by kernel_rfl
theorem card4 : false = Rows.linkDoesRow.goesBy Tryz.prog := by kernel_rfl
theorem card5 : (Tryz.f7.params.toList.all fun u => !Tryz.prog.wantsStandIn u) = true := by kernel_rfl
theorem card6 : Tryz.prog.funcNamed "wireless/wirelesslaw30.LinkDoes" = some 7 := by kernel_rfl
theorem card7 (f : FuncId) (fn : Func) (hf : Tryz.prog.funcNamed Rows.linkDoesRow.func = some f) (hfn : Tryz.prog.funcs[f]? = some fn) : false = Tryz.prog.looks [] /\ ∀ (j : Nat) t, fn.params[j]? = some t -> Tryz.prog.wantsStandIn t = false := by
  obtain rfl : f = 7 := Option.some.inj (card6.symm.trans hf) |>.symm
  obtain rfl : fn = Tryz.f7 := (Option.some.inj (Tryz.func7.symm.trans hfn)).symm
  refine ⟨card3, fun j t ht => ?_⟩
  have hm : t ∈ Tryz.f7.params.toList := Array.mem_toList_iff.2 (Array.mem_of_getElem? ht)
  have h : (!Tryz.prog.wantsStandIn t) = true := List.all_eq_true.1 card5 t hm
  cases hw : Tryz.prog.wantsStandIn t with
  | false => rfl
  | true => rw [hw] at h; cases h
theorem proved : Rows.LinkDoesCardSaid :=
  Claim7.holds_tied_plain_at .later [] [.data] true Rows.linkDoesCard.stood.harness false over (fun _ h => by cases h) card1 (fun _ h => by cases h) linkDoes_row_tie rfl ⟨rfl, rfl⟩ card2 rfl card7 card4
#print axioms proved
end Go.Proofs.YtjodhcdmhobmoaaGreatDoor.law7
