/-
  A device is made as the document says, or refused as it says. No conditions but the ranges of the arguments' types, the form's own reach and the row's own (the listed tables of the program).
-/
import Derived.Test.YtlabamnhpgoekaaGreatDoorRows
import Derived.Test.YtlabamnhpgoekaaGreatDoorQ1
import Derived.OpenShut
import Derived.Test.YtlabamnhpgoekaaGreatDoorDeviceMakesFc
import Derived.Test.YtlabamnhpgoekaaGreatDoorCards
import Derived.Test.YtlabamnhpgoekaaGreatDoorL6
import Derived.ProofKit
import Derived.LaidMore
import Derived.Stop.Joined
import Derived.SevenTiedAt
set_option linter.unusedVariables false
set_option linter.unusedSimpArgs false
namespace Go.Proofs.YtlabamnhpgoekaaGreatDoor.law3
open Go Go.Proofs.YtlabamnhpgoekaaGreatDoor.Le Go.Proofs.YtlabamnhpgoekaaGreatDoor
open Go.ChangeShapes Go.WideShapes Go.ChangeAt Go.RowKit
set_option maxRecDepth 100000
def uK (x : Gv) : Prop := (WI .i64) x.He /\ (WI .i64) x.Start /\ True
theorem seg22 : Bg Tryz.prog (AA.pair Ae (AA.pair Ae AA.unit)) [(0, 3), (1, 3)] 0 2 (fun x => uK (⟨x.1, x.2.1⟩)) := (Bg.pair (off := 0) (k := 1) (BO.int (t := 3) (by kernel_rfl)) (by kernel_rfl) (Bg.pair (off := 1) (k := 1) (BO.int (t := 3) (by kernel_rfl)) (by kernel_rfl) (Bg.unit rfl)))
theorem rd22 (t : Nat) {dd : TypeDesc} (ht : Tryz.prog.underlying t = some dd) (hs : (G9 Tryz.prog dd = some [(0, 3), (1, 3)]) /\ Tryz.prog.cellsOf t = 2) : BO Tryz.prog QF t uK := (BO.row ht hs.1 hs.2 seg22).Aq (fun _ => rfl)
def uN (x : Aa) : Prop := (WI .i64) x.Kind /\ (WI .u64) x.Bits /\ True
theorem seg25 : Bg Tryz.prog (AA.pair Ae (AA.pair Be AA.unit)) [(0, 3), (1, 24)] 0 2 (fun x => uN (⟨x.1, x.2.1⟩)) := (Bg.pair (off := 0) (k := 1) (BO.int (t := 3) (by kernel_rfl)) (by kernel_rfl) (Bg.pair (off := 1) (k := 1) (BO.int (t := 24) (by kernel_rfl)) (by kernel_rfl) (Bg.unit rfl)))
theorem rd25 (t : Nat) {dd : TypeDesc} (ht : Tryz.prog.underlying t = some dd) (hs : (G9 Tryz.prog dd = some [(0, 3), (1, 24)]) /\ Tryz.prog.cellsOf t = 2) : BO Tryz.prog EI t uN := (BO.row ht hs.1 hs.2 seg25).Aq (fun _ => rfl)
def uH (x : Bv) : Prop := uN x.Address /\ (WI .u64) x.Dq /\ True
theorem seg28 : Bg Tryz.prog (AA.pair EI (AA.pair Be AA.unit)) [(0, 26), (2, 27)] 0 3 (fun x => uH (⟨x.1, x.2.1⟩)) := (Bg.pair (off := 0) (k := 2) (rd25 26 Tryz.underlying26 ⟨by kernel_rfl, by kernel_rfl⟩) (by kernel_rfl) (Bg.pair (off := 2) (k := 1) (BO.int (t := 27) (by kernel_rfl)) (by kernel_rfl) (Bg.unit rfl)))
theorem rd28 (t : Nat) {dd : TypeDesc} (ht : Tryz.prog.underlying t = some dd) (hs : (G9 Tryz.prog dd = some [(0, 26), (2, 27)]) /\ Tryz.prog.cellsOf t = 3) : BO Tryz.prog Fh t uH := (BO.row ht hs.1 hs.2 seg28).Aq (fun _ => rfl)
def SB (x : BB) : Prop := (WI .u64) x.High /\ (WI .u64) x.Low /\ True
theorem seg36 : Bg Tryz.prog (AA.pair Be (AA.pair Be AA.unit)) [(0, 24), (1, 24)] 0 2 (fun x => SB (⟨x.1, x.2.1⟩)) := (Bg.pair (off := 0) (k := 1) (BO.int (t := 24) (by kernel_rfl)) (by kernel_rfl) (Bg.pair (off := 1) (k := 1) (BO.int (t := 24) (by kernel_rfl)) (by kernel_rfl) (Bg.unit rfl)))
theorem uD (t : Nat) {dd : TypeDesc} (ht : Tryz.prog.underlying t = some dd) (hs : (G9 Tryz.prog dd = some [(0, 24), (1, 24)]) /\ Tryz.prog.cellsOf t = 2) : BO Tryz.prog Iy t SB := (BO.row ht hs.1 hs.2 seg36).Aq (fun _ => rfl)
def Y5 (x : Ac) : Prop := (WI .u16) x.G8 /\ SB x.BL /\ (WI .i64) x.EH /\ (WL (WI .u8)) x.Value /\ True
theorem Zlu : Bg Tryz.prog (AA.pair DL (AA.pair Iy (AA.pair Ae (AA.pair (AA.list 5 1 (fun (a : Int) => Au.Ah a) : AA Ty (List (Ty 5))) AA.unit)))) [(0, 75), (1, 37), (3, 3), (4, 41)] 0 5 (fun x => Y5 (⟨x.1, x.2.1, x.2.2.1, x.2.2.2.1⟩)) := (Bg.pair (off := 0) (k := 1) (BO.int (t := 75) (by kernel_rfl)) (by kernel_rfl) (Bg.pair (off := 1) (k := 2) (uD 37 Tryz.underlying37 ⟨by kernel_rfl, by kernel_rfl⟩) (by kernel_rfl) (Bg.pair (off := 3) (k := 1) (BO.int (t := 3) (by kernel_rfl)) (by kernel_rfl) (Bg.pair (off := 4) (k := 1) (BO.ones (t := 41) (e := 5) (by kernel_rfl) (by kernel_rfl) (by kernel_rfl) (BO.int (t := 5) (by kernel_rfl))) (by kernel_rfl) (Bg.unit rfl)))))
theorem rd221 (t : Nat) {dd : TypeDesc} (ht : Tryz.prog.underlying t = some dd) (hs : (G9 Tryz.prog dd = some [(0, 75), (1, 37), (3, 3), (4, 41)]) /\ Tryz.prog.cellsOf t = 5) : BO Tryz.prog Ff t Y5 := (BO.row ht hs.1 hs.2 Zlu).Aq (fun _ => rfl)
def Y9 (x : BG) : Prop := SB x.BL /\ (WI .i64) x.Props /\ (WI .i64) x.EH /\ (WL (WI .u8)) x.Value /\ (WL Y5) x.More /\ True
theorem Zli : Bg Tryz.prog (AA.pair Iy (AA.pair Ae (AA.pair Ae (AA.pair (AA.list 5 1 (fun (a : Int) => Au.Ah a) : AA Ty (List (Ty 5))) (AA.pair (AA.list 222 5 (fun (a : Ac) => .agg (Ff.AV a)) : AA Ty (List (Ty 222))) AA.unit))))) [(0, 37), (2, 3), (3, 3), (4, 41), (5, 49)] 0 6 (fun x => Y9 (⟨x.1, x.2.1, x.2.2.1, x.2.2.2.1, x.2.2.2.2.1⟩)) := (Bg.pair (off := 0) (k := 2) (uD 37 Tryz.underlying37 ⟨by kernel_rfl, by kernel_rfl⟩) (by kernel_rfl) (Bg.pair (off := 2) (k := 1) (BO.int (t := 3) (by kernel_rfl)) (by kernel_rfl) (Bg.pair (off := 3) (k := 1) (BO.int (t := 3) (by kernel_rfl)) (by kernel_rfl) (Bg.pair (off := 4) (k := 1) (BO.ones (t := 41) (e := 5) (by kernel_rfl) (by kernel_rfl) (by kernel_rfl) (BO.int (t := 5) (by kernel_rfl))) (by kernel_rfl) (Bg.pair (off := 5) (k := 1) (BO.rows (t := 49) (e := 222) (by kernel_rfl) (by kernel_rfl) (by kernel_rfl) (rd221 222 Tryz.underlying222 ⟨by kernel_rfl, by kernel_rfl⟩)) (by kernel_rfl) (Bg.unit rfl))))))
theorem rd178 (t : Nat) {dd : TypeDesc} (ht : Tryz.prog.underlying t = some dd) (hs : (G9 Tryz.prog dd = some [(0, 37), (2, 3), (3, 3), (4, 41), (5, 49)]) /\ Tryz.prog.cellsOf t = 6) : BO Tryz.prog Il t Y9 := (BO.row ht hs.1 hs.2 Zli).Aq (fun _ => rfl)
def wf39 (x : Am) : Prop := SB x.BL /\ WB x.KR /\ (WL Y9) x.BC /\ True
theorem seg39 : Bg Tryz.prog (AA.pair Iy (AA.pair Bh (AA.pair (AA.list 179 6 (fun (a : BG) => .agg (Il.AV a)) : AA Ty (List (Ty 179))) AA.unit))) [(0, 37), (2, 4), (3, 38)] 0 4 (fun x => wf39 (⟨x.1, x.2.1, x.2.2.1⟩)) := (Bg.pair (off := 0) (k := 2) (uD 37 Tryz.underlying37 ⟨by kernel_rfl, by kernel_rfl⟩) (by kernel_rfl) (Bg.pair (off := 2) (k := 1) (BO.bool (t := 4) (by kernel_rfl)) (by kernel_rfl) (Bg.pair (off := 3) (k := 1) (BO.rows (t := 38) (e := 179) (by kernel_rfl) (by kernel_rfl) (by kernel_rfl) (rd178 179 Tryz.underlying179 ⟨by kernel_rfl, by kernel_rfl⟩)) (by kernel_rfl) (Bg.unit rfl))))
theorem rd39 (t : Nat) {dd : TypeDesc} (ht : Tryz.prog.underlying t = some dd) (hs : (G9 Tryz.prog dd = some [(0, 37), (2, 4), (3, 38)]) /\ Tryz.prog.cellsOf t = 4) : BO Tryz.prog Iu t wf39 := (BO.row ht hs.1 hs.2 seg39).Aq (fun _ => rfl)
def uC (x : GZ) : Prop := (WI .i64) x.IO /\ WB x.IE /\ WB x.Rz /\ WB x.Yf /\ WB x.YR /\ WB x.YM /\ True
theorem seg31 : Bg Tryz.prog (AA.pair Ae (AA.pair Bh (AA.pair Bh (AA.pair Bh (AA.pair Bh (AA.pair Bh AA.unit)))))) [(0, 3), (1, 4), (2, 4), (3, 4), (4, 4), (5, 4)] 0 6 (fun x => uC (⟨x.1, x.2.1, x.2.2.1, x.2.2.2.1, x.2.2.2.2.1, x.2.2.2.2.2.1⟩)) := (Bg.pair (off := 0) (k := 1) (BO.int (t := 3) (by kernel_rfl)) (by kernel_rfl) (Bg.pair (off := 1) (k := 1) (BO.bool (t := 4) (by kernel_rfl)) (by kernel_rfl) (Bg.pair (off := 2) (k := 1) (BO.bool (t := 4) (by kernel_rfl)) (by kernel_rfl) (Bg.pair (off := 3) (k := 1) (BO.bool (t := 4) (by kernel_rfl)) (by kernel_rfl) (Bg.pair (off := 4) (k := 1) (BO.bool (t := 4) (by kernel_rfl)) (by kernel_rfl) (Bg.pair (off := 5) (k := 1) (BO.bool (t := 4) (by kernel_rfl)) (by kernel_rfl) (Bg.unit rfl)))))))
theorem rd31 (t : Nat) {dd : TypeDesc} (ht : Tryz.prog.underlying t = some dd) (hs : (G9 Tryz.prog dd = some [(0, 3), (1, 4), (2, 4), (3, 4), (4, 4), (5, 4)]) /\ Tryz.prog.cellsOf t = 6) : BO Tryz.prog Kz t uC := (BO.row ht hs.1 hs.2 seg31).Aq (fun _ => rfl)
def Yr (x : C9) : Prop := uK x.Clock /\ uH x.DT /\ WB x.Fa /\ (WI .i64) x.Hq /\ (WL wf39) x.CO /\ uC x.Cc /\ WB x.RP /\ (WI .u64) x.Hz /\ (WI .i64) x.Ea /\ True
theorem seg33 : Bg Tryz.prog (AA.pair QF (AA.pair Fh (AA.pair Bh (AA.pair Ae (AA.pair (AA.list 40 4 (fun (a : Am) => .agg (Iu.AV a)) : AA Ty (List (Ty 40))) (AA.pair Kz (AA.pair Bh (AA.pair Be (AA.pair Ae AA.unit))))))))) [(0, 23), (2, 29), (5, 4), (6, 3), (7, 30), (8, 32), (14, 4), (15, 24), (16, 3)] 0 17 (fun x => Yr (⟨x.1, x.2.1, x.2.2.1, x.2.2.2.1, x.2.2.2.2.1, x.2.2.2.2.2.1, x.2.2.2.2.2.2.1, x.2.2.2.2.2.2.2.1, x.2.2.2.2.2.2.2.2.1⟩)) := (Bg.pair (off := 0) (k := 2) (rd22 23 Tryz.underlying23 ⟨by kernel_rfl, by kernel_rfl⟩) (by kernel_rfl) (Bg.pair (off := 2) (k := 3) (rd28 29 Tryz.underlying29 ⟨by kernel_rfl, by kernel_rfl⟩) (by kernel_rfl) (Bg.pair (off := 5) (k := 1) (BO.bool (t := 4) (by kernel_rfl)) (by kernel_rfl) (Bg.pair (off := 6) (k := 1) (BO.int (t := 3) (by kernel_rfl)) (by kernel_rfl) (Bg.pair (off := 7) (k := 1) (BO.rows (t := 30) (e := 40) (by kernel_rfl) (by kernel_rfl) (by kernel_rfl) (rd39 40 Tryz.underlying40 ⟨by kernel_rfl, by kernel_rfl⟩)) (by kernel_rfl) (Bg.pair (off := 8) (k := 6) (rd31 32 Tryz.underlying32 ⟨by kernel_rfl, by kernel_rfl⟩) (by kernel_rfl) (Bg.pair (off := 14) (k := 1) (BO.bool (t := 4) (by kernel_rfl)) (by kernel_rfl) (Bg.pair (off := 15) (k := 1) (BO.int (t := 24) (by kernel_rfl)) (by kernel_rfl) (Bg.pair (off := 16) (k := 1) (BO.int (t := 3) (by kernel_rfl)) (by kernel_rfl) (Bg.unit rfl))))))))))
theorem rd33 (t : Nat) {dd : TypeDesc} (ht : Tryz.prog.underlying t = some dd) (hs : (G9 Tryz.prog dd = some [(0, 23), (2, 29), (5, 4), (6, 3), (7, 30), (8, 32), (14, 4), (15, 24), (16, 3)]) /\ Tryz.prog.cellsOf t = 17) : BO Tryz.prog QG t Yr := (BO.row ht hs.1 hs.2 seg33).Aq (fun _ => rfl)
def WfL (x : Dy U TE.ts) : Prop := Yr x.1 /\ (WI .i64) x.2.1 /\ True
theorem Yn {a : Int} (h : WI .u64 a) : DI a := by
  simp only [WI, Lit.wf, Bool.and_eq_true, decide_eq_true_eq] at h
  have h1 : (IntKind.u64.min) = 0 := rfl
  have h2 : (IntKind.u64.max) = 18446744073709551615 := rfl
  rw [h1, h2] at h
  unfold DI
  omega
theorem X5 {n : Nat} (h : n <= reachBytes) : n <= 140737488351232 := h
theorem pF {u : BB} (h : SB u) : UK u := ⟨Yn h.1, Yn h.2.1⟩
theorem Zlo {a : Ac} (h : Y5 a) : Yq a := ⟨pF h.2.1, X5 h.2.2.2.1.1⟩
theorem ZkL {c : BG} (h : Y9 c) : VM c := ⟨pF h.1, X5 h.2.2.2.1.1, X5 h.2.2.2.2.1.1, fun a ha => Zlo (h.2.2.2.2.1.2 a ha)⟩
theorem Zkt {s : Am} (h : wf39 s) : SvcR s := ⟨pF h.1, X5 h.2.2.1.1, fun c hc => ZkL (h.2.2.1.2 c hc)⟩
theorem Z63 (x : Dy U TE.ts) (h : WfL x) : TE.fn x = some true :=
  law x.1 x.2.1 ⟨Yn h.1.2.1.2.1, Yn h.1.2.1.1.2.1, fun s hs => Zkt (h.1.2.2.2.2.1.2 s hs)⟩
theorem Z9q {P : Program} {x : String × DataW Unit} {l : List (String × DataW Unit)} {W : World} (h : laidMet P (x :: l) W) : laidMet P [x] W /\ laidMet P l W := by
  obtain ⟨ps, hl, hn, hc⟩ := h
  obtain ⟨n, d⟩ := x
  obtain ⟨g, t, cs, f, p, q, h1, h2, h3, h4, h5, rfl⟩ := hl
  have hn' := hn
  rw [List.nodup_append] at hn'
  exact ⟨⟨_, ⟨g, t, cs, f, p, [], h1, h2, h3, h4, rfl, rfl⟩, by rw [List.append_nil]; exact hn'.1, fun b off hb => hc b off (by rw [List.append_nil] at hb; exact List.mem_append_left _ hb)⟩,
    ⟨q, h5, hn'.2.1, fun b off hb => hc b off (List.mem_append_right _ hb)⟩⟩
theorem Z8U {P : Program} {x : String × DataW Unit} {l : List (String × DataW Unit)} {W : World} (hx : ((x :: l).all fun x => x.2.handleName?.isNone) = true) (h : laidMetH P (x :: l) W) : laidMetH P [x] W /\ laidMetH P l W := by
  rw [MakeChecks.laidMetH_plain _ _ _ hx] at h
  simp only [List.all_cons, Bool.and_eq_true] at hx
  rw [MakeChecks.laidMetH_plain _ _ _ (by simpa using hx.1), MakeChecks.laidMetH_plain _ _ _ hx.2]
  exact Z9q h
theorem own : ownKnob Tryz.prog.godebug = none := by kernel_rfl
theorem laid : laidOutB Tryz.prog = true := ckd.1
def Kq : List (String × DataW Unit) := [("wireless/address.prefixes", Rows.laid_wireless_address_prefixes), ("wireless/crc.sums", Rows.laid_wireless_crc_sums)]
theorem of_laid {W : World} (h : laidMetH Tryz.prog Kq W) : CW B0 (bare (J5 W)) W := fun g r hg => by
  have hs := Z8U (by kernel_rfl) h
  by_cases h0 : g = 0
  · subst h0
    have e : r = (([0, 0, 3, 1, 0] : List Int)).map (fun n => V.lit (.int .u64 n)) := (Option.some.inj ((show gl 0 = some _ from rfl).symm.trans hg)).symm
    subst e
    exact Z2j (P := Tryz.prog) (ks := ([0, 0, 3, 1, 0] : List Int)) (tA := 245) (e := 24) (ik := .u64) (name := "wireless/address.prefixes") (by kernel_rfl) (by kernel_rfl) (by kernel_rfl) (by kernel_rfl) (by kernel_rfl) (by kernel_rfl) hs.1
  by_cases h1 : g = 1
  · subst h1
    have e : r = (([0, 1788928, 3577856, 3003392, 7155712, 7764992, 6006784, 4252672, 14311424, 12659712, 15529984, 16233472, 12013568, 11279360, 8505344, 10126336] : List Int)).map (fun n => V.lit (.int .u32 n)) := (Option.some.inj ((show gl 1 = some _ from rfl).symm.trans hg)).symm
    subst e
    exact Z2j (P := Tryz.prog) (ks := ([0, 1788928, 3577856, 3003392, 7155712, 7764992, 6006784, 4252672, 14311424, 12659712, 15529984, 16233472, 12013568, 11279360, 8505344, 10126336] : List Int)) (tA := 621) (e := 111) (ik := .u32) (name := "wireless/crc.sums") (by kernel_rfl) (by kernel_rfl) (by kernel_rfl) (by kernel_rfl) (by kernel_rfl) (by kernel_rfl) hs.2
  exact absurd (hg.symm.trans (show gl g = none by unfold gl; rw [if_neg h0, if_neg h1])) (by simp)
theorem door_met (os : Os) (args : Array Value) : laidMetH Tryz.prog Kq ((World.doorLaid Tryz.prog 400 os).forCall (fun _ _ => 0) ⟨#[], args, []⟩).memory :=
  laidMetH_of_parts3 (fuel := 8) (laidMet_of_run' 8 (by kernel_rfl) (by kernel_rfl)) (by kernel_rfl) (by kernel_rfl)
theorem lifted (os : Os) (started : os.Started) (H : Type) (enc : TypeId × Value -> H) :
    ReturnsInHanded {} Tryz.checked os 3 .any (fun w args => (Rows.deviceMakesSpec.pre enc Tryz.prog Tryz.f3 [] false w args /\ laidMetH Tryz.prog Kq w) /\ sizedMet enc Tryz.prog Tryz.f3 (OpenSpec.ofChange Rows.deviceMakesSpec) false w args)
      (Rows.deviceMakesSpec.post enc Tryz.prog Tryz.f3 false true false false) := by
  refine returnsInHanded_of_change_and (C := Tryz.checked) (X := fun w _ => laidMetH Tryz.prog Kq w) (fun _ _ _ hh h => h.of_heap hh) own started (by kernel_rfl) Tryz.func3
    (ChangeSpec.witness_shaped (enc := enc) (C := Tryz.checked) (os := os) (X := fun w _ => laidMetH Tryz.prog Kq w) false (World.doorLaid Tryz.prog 400 os) #[.agg #[.int .i64 0, .int .i64 0, .int .i64 0, .int .u64 0, .int .u64 0, .bool false, .int .i64 0, .slice none 0 0, .int .i64 0, .bool false, .bool false, .bool false, .bool false, .bool false, .bool false, .int .u64 0, .int .i64 0], .int .i64 0] 8 rfl (World.shaped_of_RefB (by kernel_rfl) (by kernel_rfl)) (by kernel_rfl) (by kernel_rfl) (by kernel_rfl) (door_met os _)) ?_
  intro W base args ds gs before hval hW _ hz hL _
  have hgs : gs.length = 0 := by
    obtain ⟨p, q, hA, hV, _⟩ := hW
    cases gs with
    | nil => rfl
    | cons g gs => exact hV.elim
  have hds : ds.length = 2 := by
    obtain ⟨p, q, hA, hV, _⟩ := hW
    exact Z0o hA
  exact ZkY (E0 := B0) (m := TE) (fn := Tryz.f3) (tb := 4) (d := 12) Z6o (OW.cons (QC.rows (U := U) (t := 34) (c := QG) (wf := Yr) (by kernel_rfl) (rd33 34 Tryz.underlying34 ⟨by kernel_rfl, by kernel_rfl⟩) (fun _ => rfl)) (OW.cons (QC.ones (U := U) (t := 3) (c := Ae) (wf := (WI .i64)) (by kernel_rfl) (BO.int (t := 3) (by kernel_rfl)) (fun _ => rfl)) OW.nil)) rfl (by decide +kernel) laid (by decide +kernel) rfl (by kernel_rfl) (tt := true) rfl Z63
    (fun ds gs h1 h2 => by
      match ds, gs, h1, h2 with
      | [d0, d1], [], _, _ => exact ⟨rfl, rfl, rfl⟩)
    (fun j t v h1 h2 => ⟨_, _, hval j t v h1 h2⟩) hW (of_laid hL) (fun W' _ pv h _ sp _ => by cases gs with | nil => exact h | cons g gs => exact h.elim) hds hgs hz
theorem over : Rows.deviceMakesRow.holds Tryz.pinned (OpenSpec.ofChange Rows.deviceMakesSpec) :=
  OpenClaim.holds_of_wide 3 Tryz.f3 rfl rfl rfl rfl rfl rfl rfl ⟨rfl, rfl, rfl, rfl, rfl⟩ rfl rfl rfl rfl rfl (by as_aux_lemma => kernel_rfl) Tryz.func3 closed
    (of_decide_eq_true (by as_aux_lemma => kernel_rfl)) (by unfold Func.isWrapper; first | (rw [if_pos (by decide +kernel)]; kernel_rfl) | (rw [if_neg (by decide +kernel)]; exact ⟨rfl, rfl⟩))
    (fun os started H enc _ => lifted os started H enc)
theorem card1 : Rows.deviceMakesRow.wfByText (OpenSpec.ofChange Rows.deviceMakesSpec) = true := by kernel_rfl
theorem card2 : Tryz.prog.mainIs = some (Rows.deviceMakesCard.stood.harness.1, Rows.deviceMakesCard.stood.harness.2.toList) := by kernel_rfl
theorem card3 : true = Tryz.prog.looks [] := by kernel_rfl
theorem gnS : Tryz.prog.funcs.size = 657 := by kernel_rfl
theorem gn0 : ((List.range' 0 48).all (fun i => !((Tryz.prog.funcs[i]?).any Func.goes))) = true := by kernel_rfl
theorem gn1 : ((List.range' 48 48).all (fun i => !((Tryz.prog.funcs[i]?).any Func.goes))) = true := by kernel_rfl
theorem gn2 : ((List.range' 96 48).all (fun i => !((Tryz.prog.funcs[i]?).any Func.goes))) = true := by kernel_rfl
theorem gn3 : ((List.range' 144 48).all (fun i => !((Tryz.prog.funcs[i]?).any Func.goes))) = true := by kernel_rfl
theorem gn4 : ((List.range' 192 48).all (fun i => !((Tryz.prog.funcs[i]?).any Func.goes))) = true := by kernel_rfl
theorem gn5 : ((List.range' 240 48).all (fun i => !((Tryz.prog.funcs[i]?).any Func.goes))) = true := by kernel_rfl
theorem gn6 : ((List.range' 288 48).all (fun i => !((Tryz.prog.funcs[i]?).any Func.goes))) = true := by kernel_rfl
theorem gn7 : ((List.range' 336 48).all (fun i => !((Tryz.prog.funcs[i]?).any Func.goes))) = true := by kernel_rfl
theorem gn8 : ((List.range' 384 48).all (fun i => !((Tryz.prog.funcs[i]?).any Func.goes))) = true := by kernel_rfl
theorem gn9 : ((List.range' 432 48).all (fun i => !((Tryz.prog.funcs[i]?).any Func.goes))) = true := by kernel_rfl
theorem gn10 : ((List.range' 480 48).all (fun i => !((Tryz.prog.funcs[i]?).any Func.goes))) = true := by kernel_rfl
theorem gn11 : ((List.range' 528 48).all (fun i => !((Tryz.prog.funcs[i]?).any Func.goes))) = true := by kernel_rfl
theorem gn12 : ((List.range' 576 48).all (fun i => !((Tryz.prog.funcs[i]?).any Func.goes))) = true := by kernel_rfl
theorem gn13 : ((List.range' 624 33).all (fun i => !((Tryz.prog.funcs[i]?).any Func.goes))) = true := by kernel_rfl
theorem gnA : ((List.range 657).all (fun i => !((Tryz.prog.funcs[i]?).any Func.goes))) = true := by
  rw [show List.range 657 = List.range' 0 48 ++ List.range' 48 48 ++ List.range' 96 48 ++ List.range' 144 48 ++ List.range' 192 48 ++ List.range' 240 48 ++ List.range' 288 48 ++ List.range' 336 48 ++ List.range' 384 48 ++ List.range' 432 48 ++ List.range' 480 48 ++ List.range' 528 48 ++ List.range' 576 48 ++ List.range' 624 33 from by decide +kernel]
  simp only [List.all_append, gn0, gn1, gn2, gn3, gn4, gn5, gn6, gn7, gn8, gn9, gn10, gn11, gn12, gn13, Bool.and_self]
theorem nogo (g : Nat) : (Tryz.prog.funcs[g]?).any Func.goes = false := by
  by_cases hg : g < 657
  · have := List.all_eq_true.1 gnA g (List.mem_range.2 hg)
    simpa using this
  · rw [Array.getElem?_eq_none (by rw [gnS]; omega)]
    rfl
theorem card4 : false = Rows.deviceMakesRow.goesBy Tryz.prog := by
  have h2 : Tryz.prog.funcs.any Func.goes = false := by
    rw [Array.any_eq_false]
    intro i hi
    have := nogo i
    rw [Array.getElem?_eq_getElem hi] at this
    simpa using this
  have hg : ∀ f, Tryz.prog.goes f = false := fun f => by
    unfold Program.goes
    rw [h2, Bool.and_false, Bool.or_false]
    simp only [nogo]
    simp
  show false = (Tryz.prog.goesFrom Rows.deviceMakesRow.func || false)
  unfold Program.goesFrom
  cases Tryz.prog.funcNamed Rows.deviceMakesRow.func with
  | none => rfl
  | some f => simp [hg]
theorem card5 : (Tryz.f3.params.toList.all fun u => !Tryz.prog.wantsStandIn u) = true := by kernel_rfl
theorem card6 : Tryz.prog.funcNamed "wireless/wirelesslaw55.DeviceMakes" = some 3 := by kernel_rfl
theorem card7 (f : FuncId) (fn : Func) (hf : Tryz.prog.funcNamed Rows.deviceMakesRow.func = some f) (hfn : Tryz.prog.funcs[f]? = some fn) : true = Tryz.prog.looks [] /\ ∀ (j : Nat) t, fn.params[j]? = some t -> Tryz.prog.wantsStandIn t = false := by
  obtain rfl : f = 3 := Option.some.inj (card6.symm.trans hf) |>.symm
  obtain rfl : fn = Tryz.f3 := (Option.some.inj (Tryz.func3.symm.trans hfn)).symm
  refine ⟨card3, fun j t ht => ?_⟩
  have hm : t ∈ Tryz.f3.params.toList := Array.mem_toList_iff.2 (Array.mem_of_getElem? ht)
  have h : (!Tryz.prog.wantsStandIn t) = true := List.all_eq_true.1 card5 t hm
  cases hw : Tryz.prog.wantsStandIn t with
  | false => rfl
  | true => rw [hw] at h; cases h
theorem proved : Rows.DeviceMakesCardSaid :=
  Claim7.holds_tied_plain_at .later [] [.data, .data] true Rows.deviceMakesCard.stood.harness true over (fun _ h => by cases h) card1 (fun _ h => by cases h) Z6D rfl ⟨rfl, rfl⟩ card2 rfl card7 card4
#print axioms proved
end Go.Proofs.YtlabamnhpgoekaaGreatDoor.law3
