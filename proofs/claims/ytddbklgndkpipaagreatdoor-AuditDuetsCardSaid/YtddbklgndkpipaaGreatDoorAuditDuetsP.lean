/-
  The faults of a duet that was run by any script and then spoilt, and their names, are those of the document. No conditions but the ranges of the arguments' types and the row's own (the listed tables of the program).
-/
import Derived.Test.YtddbklgndkpipaaGreatDoorRows
import Derived.Test.YtddbklgndkpipaaGreatDoorQ3
import Derived.OpenShut
import Derived.Test.YtddbklgndkpipaaGreatDoorAuditDuetsFc
import Derived.Test.YtddbklgndkpipaaGreatDoorCards
import Derived.Test.YtddbklgndkpipaaGreatDoorTie
import Derived.Test.YtddbklgndkpipaaGreatDoorL6
import Derived.ProofKit
import Derived.LaidMore
import Derived.Stop.Joined
import Derived.SevenTiedAt
set_option linter.unusedVariables false
set_option linter.unusedSimpArgs false
namespace Go.Proofs.YtddbklgndkpipaaGreatDoor.law3
open Go Go.Proofs.YtddbklgndkpipaaGreatDoor.Le Go.Proofs.YtddbklgndkpipaaGreatDoor
open Go.ChangeShapes Go.WideShapes Go.ChangeAt Go.RowKit
set_option maxRecDepth 100000
def fE (x : ER) : Prop := (WI .i64) x.Gy /\ (WI .i64) x.Gl /\ (WI .i64) x.GK /\ (WI .i64) x.Fb /\ (WI .i64) x.He /\ True
theorem seg23 : DF Tryz.prog (AO.pair BN (AO.pair BN (AO.pair BN (AO.pair BN (AO.pair BN AO.unit))))) [(0, 3), (1, 3), (2, 3), (3, 3), (4, 3)] 0 5 (fun x => fE (⟨x.1, x.2.1, x.2.2.1, x.2.2.2.1, x.2.2.2.2.1⟩)) := (DF.pair (off := 0) (k := 1) (CW.int (t := 3) (by kernel_rfl)) (by kernel_rfl) (DF.pair (off := 1) (k := 1) (CW.int (t := 3) (by kernel_rfl)) (by kernel_rfl) (DF.pair (off := 2) (k := 1) (CW.int (t := 3) (by kernel_rfl)) (by kernel_rfl) (DF.pair (off := 3) (k := 1) (CW.int (t := 3) (by kernel_rfl)) (by kernel_rfl) (DF.pair (off := 4) (k := 1) (CW.int (t := 3) (by kernel_rfl)) (by kernel_rfl) (DF.unit rfl))))))
theorem rd23 (t : Nat) {dd : TypeDesc} (ht : Tryz.prog.underlying t = some dd) (hs : (Hg Tryz.prog dd = some [(0, 3), (1, 3), (2, 3), (3, 3), (4, 3)]) /\ Tryz.prog.cellsOf t = 5) : CW Tryz.prog Ky t fE := (CW.row ht hs.1 hs.2 seg23).CV (fun _ => rfl)
def wU (x : Eh) : Prop := (WI .u32) x.JD /\ (WI .u32) x.Kr /\ fE x.BM /\ (WI .u64) x.Map /\ (WI .i64) x.Hop /\ (WI .i64) x.H6 /\ (WI .i64) x.LW /\ True
theorem seg27 : DF Tryz.prog (AO.pair Pv (AO.pair Pv (AO.pair Ky (AO.pair D8 (AO.pair BN (AO.pair BN (AO.pair BN AO.unit))))))) [(0, 22), (1, 22), (2, 24), (7, 26), (8, 3), (9, 3), (10, 3)] 0 11 (fun x => wU (⟨x.1, x.2.1, x.2.2.1, x.2.2.2.1, x.2.2.2.2.1, x.2.2.2.2.2.1, x.2.2.2.2.2.2.1⟩)) := (DF.pair (off := 0) (k := 1) (CW.int (t := 22) (by kernel_rfl)) (by kernel_rfl) (DF.pair (off := 1) (k := 1) (CW.int (t := 22) (by kernel_rfl)) (by kernel_rfl) (DF.pair (off := 2) (k := 5) (rd23 24 Tryz.underlying24 ⟨by kernel_rfl, by kernel_rfl⟩) (by kernel_rfl) (DF.pair (off := 7) (k := 1) (CW.int (t := 26) (by kernel_rfl)) (by kernel_rfl) (DF.pair (off := 8) (k := 1) (CW.int (t := 3) (by kernel_rfl)) (by kernel_rfl) (DF.pair (off := 9) (k := 1) (CW.int (t := 3) (by kernel_rfl)) (by kernel_rfl) (DF.pair (off := 10) (k := 1) (CW.int (t := 3) (by kernel_rfl)) (by kernel_rfl) (DF.unit rfl))))))))
theorem rd27 (t : Nat) {dd : TypeDesc} (ht : Tryz.prog.underlying t = some dd) (hs : (Hg Tryz.prog dd = some [(0, 22), (1, 22), (2, 24), (7, 26), (8, 3), (9, 3), (10, 3)]) /\ Tryz.prog.cellsOf t = 11) : CW Tryz.prog Pq t wU := (CW.row ht hs.1 hs.2 seg27).CV (fun _ => rfl)
def fV (x : DV) : Prop := (WI .i64) x.H6 /\ (WI .i64) x.Start /\ True
theorem seg29 : DF Tryz.prog (AO.pair BN (AO.pair BN AO.unit)) [(0, 3), (1, 3)] 0 2 (fun x => fV (⟨x.1, x.2.1⟩)) := (DF.pair (off := 0) (k := 1) (CW.int (t := 3) (by kernel_rfl)) (by kernel_rfl) (DF.pair (off := 1) (k := 1) (CW.int (t := 3) (by kernel_rfl)) (by kernel_rfl) (DF.unit rfl)))
theorem rd29 (t : Nat) {dd : TypeDesc} (ht : Tryz.prog.underlying t = some dd) (hs : (Hg Tryz.prog dd = some [(0, 3), (1, 3)]) /\ Tryz.prog.cellsOf t = 2) : CW Tryz.prog O3 t fV := (CW.row ht hs.1 hs.2 seg29).CV (fun _ => rfl)
def wE (x : Dz) : Prop := fV x.x0 /\ fV x.x1 /\ True
theorem seg31 : DF Tryz.prog (AO.pair O3 (AO.pair O3 AO.unit)) [(0, 30), (2, 30)] 0 4 (fun x => wE (⟨x.1, x.2.1⟩)) := (DF.pair (off := 0) (k := 2) (rd29 30 Tryz.underlying30 ⟨by kernel_rfl, by kernel_rfl⟩) (by kernel_rfl) (DF.pair (off := 2) (k := 2) (rd29 30 Tryz.underlying30 ⟨by kernel_rfl, by kernel_rfl⟩) (by kernel_rfl) (DF.unit rfl)))
theorem rd31 (t : Nat) {dd : TypeDesc} (ht : Tryz.prog.underlying t = some dd) (hs : (Hg Tryz.prog dd = some [(0, 30), (2, 30)]) /\ Tryz.prog.cellsOf t = 4) : CW Tryz.prog Pz t wE := (CW.row ht hs.1 hs.2 seg31).CV (fun _ => rfl)
def wQ (x : KJ) : Prop := (WI .u64) x.x0 /\ (WI .u64) x.x1 /\ True
theorem seg33 : DF Tryz.prog (AO.pair D8 (AO.pair D8 AO.unit)) [(0, 32), (1, 32)] 0 2 (fun x => wQ (⟨x.1, x.2.1⟩)) := (DF.pair (off := 0) (k := 1) (CW.int (t := 32) (by kernel_rfl)) (by kernel_rfl) (DF.pair (off := 1) (k := 1) (CW.int (t := 32) (by kernel_rfl)) (by kernel_rfl) (DF.unit rfl)))
theorem rd33 (t : Nat) {dd : TypeDesc} (ht : Tryz.prog.underlying t = some dd) (hs : (Hg Tryz.prog dd = some [(0, 32), (1, 32)]) /\ Tryz.prog.cellsOf t = 2) : CW Tryz.prog Qr t wQ := (CW.row ht hs.1 hs.2 seg33).CV (fun _ => rfl)
def fG (x : Oa) : Prop := wU x.Bz /\ wE x.DT /\ wQ x.Keys /\ (WI .u64) x.Jc /\ True
theorem seg34 : DF Tryz.prog (AO.pair Pq (AO.pair Pz (AO.pair Qr (AO.pair D8 AO.unit)))) [(0, 28), (11, 31), (15, 33), (17, 25)] 0 18 (fun x => fG (⟨x.1, x.2.1, x.2.2.1, x.2.2.2.1⟩)) := (DF.pair (off := 0) (k := 11) (rd27 28 Tryz.underlying28 ⟨by kernel_rfl, by kernel_rfl⟩) (by kernel_rfl) (DF.pair (off := 11) (k := 4) (rd31 31 Tryz.underlying31 ⟨by kernel_rfl, by kernel_rfl⟩) (by kernel_rfl) (DF.pair (off := 15) (k := 2) (rd33 33 Tryz.underlying33 ⟨by kernel_rfl, by kernel_rfl⟩) (by kernel_rfl) (DF.pair (off := 17) (k := 1) (CW.int (t := 25) (by kernel_rfl)) (by kernel_rfl) (DF.unit rfl)))))
theorem rd34 (t : Nat) {dd : TypeDesc} (ht : Tryz.prog.underlying t = some dd) (hs : (Hg Tryz.prog dd = some [(0, 28), (11, 31), (15, 33), (17, 25)]) /\ Tryz.prog.cellsOf t = 18) : CW Tryz.prog TS t fG := (CW.row ht hs.1 hs.2 seg34).CV (fun _ => rfl)
def wM (x : Ai) : Prop := (WI .i64) x.Dn /\ (WL (WI .u8)) x.Payload /\ True
theorem seg66 : DF Tryz.prog (AO.pair BN (AO.pair (AO.list 5 1 (fun (a : Int) => IE.Bc a) : AO Ty (List (Ty 5))) AO.unit)) [(0, 3), (1, 65)] 0 2 (fun x => wM (⟨x.1, x.2.1⟩)) := (DF.pair (off := 0) (k := 1) (CW.int (t := 3) (by kernel_rfl)) (by kernel_rfl) (DF.pair (off := 1) (k := 1) (CW.ones (t := 65) (e := 5) (by kernel_rfl) (by kernel_rfl) (by kernel_rfl) (CW.int (t := 5) (by kernel_rfl))) (by kernel_rfl) (DF.unit rfl)))
theorem rd66 (t : Nat) {dd : TypeDesc} (ht : Tryz.prog.underlying t = some dd) (hs : (Hg Tryz.prog dd = some [(0, 3), (1, 65)]) /\ Tryz.prog.cellsOf t = 2) : CW Tryz.prog GU t wM := (CW.row ht hs.1 hs.2 seg66).CV (fun _ => rfl)
def fO (x : Eo) : Prop := (WI .i64) x.Side /\ (WI .i64) x.Kind /\ wM x.Bg /\ fE x.BM /\ (WI .u64) x.Map /\ (WI .u64) x.Number /\ (WI .u64) x.Key /\ True
theorem seg96 : DF Tryz.prog (AO.pair BN (AO.pair BN (AO.pair GU (AO.pair Ky (AO.pair D8 (AO.pair D8 (AO.pair D8 AO.unit))))))) [(0, 3), (1, 3), (2, 67), (4, 24), (9, 26), (10, 25), (11, 32)] 0 12 (fun x => fO (⟨x.1, x.2.1, x.2.2.1, x.2.2.2.1, x.2.2.2.2.1, x.2.2.2.2.2.1, x.2.2.2.2.2.2.1⟩)) := (DF.pair (off := 0) (k := 1) (CW.int (t := 3) (by kernel_rfl)) (by kernel_rfl) (DF.pair (off := 1) (k := 1) (CW.int (t := 3) (by kernel_rfl)) (by kernel_rfl) (DF.pair (off := 2) (k := 2) (rd66 67 Tryz.underlying67 ⟨by kernel_rfl, by kernel_rfl⟩) (by kernel_rfl) (DF.pair (off := 4) (k := 5) (rd23 24 Tryz.underlying24 ⟨by kernel_rfl, by kernel_rfl⟩) (by kernel_rfl) (DF.pair (off := 9) (k := 1) (CW.int (t := 26) (by kernel_rfl)) (by kernel_rfl) (DF.pair (off := 10) (k := 1) (CW.int (t := 25) (by kernel_rfl)) (by kernel_rfl) (DF.pair (off := 11) (k := 1) (CW.int (t := 32) (by kernel_rfl)) (by kernel_rfl) (DF.unit rfl))))))))
theorem rd96 (t : Nat) {dd : TypeDesc} (ht : Tryz.prog.underlying t = some dd) (hs : (Hg Tryz.prog dd = some [(0, 3), (1, 3), (2, 67), (4, 24), (9, 26), (10, 25), (11, 32)]) /\ Tryz.prog.cellsOf t = 12) : CW Tryz.prog Ph t fO := (CW.row ht hs.1 hs.2 seg96).CV (fun _ => rfl)
def fF (x : DL) : Prop := (WL fO) x.F8 /\ (WL (WI .i64)) x.Pn /\ (WL (WI .i64)) x.Wj /\ (WI .i64) x.QY /\ True
theorem seg94 : DF Tryz.prog (AO.pair (AO.list 97 12 (fun (a : Eo) => .agg (Ph.BD a)) : AO Ty (List (Ty 97))) (AO.pair (AO.list 3 1 (fun (a : Int) => BN.Bc a) : AO Ty (List (Ty 3))) (AO.pair (AO.list 3 1 (fun (a : Int) => BN.Bc a) : AO Ty (List (Ty 3))) (AO.pair BN AO.unit)))) [(0, 92), (1, 93), (2, 93), (3, 3)] 0 4 (fun x => fF (⟨x.1, x.2.1, x.2.2.1, x.2.2.2.1⟩)) := (DF.pair (off := 0) (k := 1) (CW.rows (t := 92) (e := 97) (by kernel_rfl) (by kernel_rfl) (by kernel_rfl) (rd96 97 Tryz.underlying97 ⟨by kernel_rfl, by kernel_rfl⟩)) (by kernel_rfl) (DF.pair (off := 1) (k := 1) (CW.ones (t := 93) (e := 3) (by kernel_rfl) (by kernel_rfl) (by kernel_rfl) (CW.int (t := 3) (by kernel_rfl))) (by kernel_rfl) (DF.pair (off := 2) (k := 1) (CW.ones (t := 93) (e := 3) (by kernel_rfl) (by kernel_rfl) (by kernel_rfl) (CW.int (t := 3) (by kernel_rfl))) (by kernel_rfl) (DF.pair (off := 3) (k := 1) (CW.int (t := 3) (by kernel_rfl)) (by kernel_rfl) (DF.unit rfl)))))
theorem rd94 (t : Nat) {dd : TypeDesc} (ht : Tryz.prog.underlying t = some dd) (hs : (Hg Tryz.prog dd = some [(0, 92), (1, 93), (2, 93), (3, 3)]) /\ Tryz.prog.cellsOf t = 4) : CW Tryz.prog Kt t fF := (CW.row ht hs.1 hs.2 seg94).CV (fun _ => rfl)
def fD (x : Ob) : Prop := (WI .i64) x.Kind /\ (WI .i64) x.Which /\ True
theorem seg37 : DF Tryz.prog (AO.pair BN (AO.pair BN AO.unit)) [(0, 3), (1, 3)] 0 2 (fun x => fD (⟨x.1, x.2.1⟩)) := (DF.pair (off := 0) (k := 1) (CW.int (t := 3) (by kernel_rfl)) (by kernel_rfl) (DF.pair (off := 1) (k := 1) (CW.int (t := 3) (by kernel_rfl)) (by kernel_rfl) (DF.unit rfl)))
theorem rd37 (t : Nat) {dd : TypeDesc} (ht : Tryz.prog.underlying t = some dd) (hs : (Hg Tryz.prog dd = some [(0, 3), (1, 3)]) /\ Tryz.prog.cellsOf t = 2) : CW Tryz.prog TQ t fD := (CW.row ht hs.1 hs.2 seg37).CV (fun _ => rfl)
def WfL (x : FZ U Tt.ts) : Prop := fG x.1 /\ (WL fF) x.2.1 /\ fD x.2.2.1 /\ True
theorem wi8 {a : Int} (h : WI .u8 a) : R8 a := by
  simp only [WI, Lit.wf, Bool.and_eq_true, decide_eq_true_eq] at h
  have h1 : (IntKind.u8.min) = 0 := rfl
  have h2 : (IntKind.u8.max) = 255 := rfl
  rw [h1, h2] at h
  unfold R8
  omega
theorem wi32 {a : Int} (h : WI .u32 a) : R32 a := by
  simp only [WI, Lit.wf, Bool.and_eq_true, decide_eq_true_eq] at h
  have h1 : (IntKind.u32.min) = 0 := rfl
  have h2 : (IntKind.u32.max) = 4294967295 := rfl
  rw [h1, h2] at h
  unfold R32
  omega
theorem Td {a : Int} (h : WI .u64 a) : Bq a := by
  simp only [WI, Lit.wf, Bool.and_eq_true, decide_eq_true_eq] at h
  have h1 : (IntKind.u64.min) = 0 := rfl
  have h2 : (IntKind.u64.max) = 18446744073709551615 := rfl
  rw [h1, h2] at h
  unfold Bq
  omega
theorem Zov {a : Eo} (h : fO a) : acW a := ⟨fun b hb => wi8 (h.2.2.1.2.1.2 b hb), Td h.2.2.2.2.1, Td h.2.2.2.2.2.1, Td h.2.2.2.2.2.2.1⟩
theorem Z83 (x : FZ U Tt.ts) (h : WfL x) : Tt.fn x = some true := by
  obtain ⟨r, h1, h2⟩ := Z8p x.1 x.2.1 x.2.2.1 ⟨wi32 h.1.1.1, wi32 h.1.1.2.1, Td h.1.1.2.2.2.1⟩ (Td h.1.2.2.1.1) (Td h.1.2.2.1.2.1) (fun b hb a ha => Zov ((h.2.1.2 b hb).1.2 a ha))
  subst h2
  exact h1
theorem own : ownKnob Tryz.prog.godebug = none := by kernel_rfl
theorem laid : laidOutB Tryz.prog = true := by kernel_rfl
def Wv : List (String × DataW Unit) := [("wireless/address.prefixes", Rows.laid_wireless_address_prefixes), ("wireless/crc.sums", Rows.laid_wireless_crc_sums)]
theorem of_laid {W : World} (h : laidMetH Tryz.prog Wv W) : Dk B0 (bare (OW W)) W := fun g r hg => by cases hg
theorem door_met (os : Os) (args : Array Value) : laidMetH Tryz.prog Wv ((World.doorLaid Tryz.prog 400 os).forCall (fun _ _ => 0) ⟨#[], args, []⟩).memory :=
  laidMetH_of_parts3 (fuel := 8) (laidMet_of_run' 8 (by kernel_rfl) (by kernel_rfl)) (by kernel_rfl) (by kernel_rfl)
theorem lifted (os : Os) (started : os.Started) (H : Type) (enc : TypeId × Value -> H) :
    ReturnsInHanded {} Tryz.checked os 3 .any (fun w args => (Rows.auditDuetsSpec.pre enc Tryz.prog Tryz.f3 [] false w args /\ laidMetH Tryz.prog Wv w) /\ sizedMet enc Tryz.prog Tryz.f3 (OpenSpec.ofChange Rows.auditDuetsSpec) false w args)
      (Rows.auditDuetsSpec.post enc Tryz.prog Tryz.f3 false true false false) := by
  refine returnsInHanded_of_change_and (C := Tryz.checked) (X := fun w _ => laidMetH Tryz.prog Wv w) (fun _ _ _ hh h => h.of_heap hh) own started (by kernel_rfl) Tryz.func3
    (ChangeSpec.witness_shaped (enc := enc) (C := Tryz.checked) (os := os) (X := fun w _ => laidMetH Tryz.prog Wv w) false (World.doorLaid Tryz.prog 400 os) #[.agg #[.int .u32 0, .int .u32 0, .int .i64 0, .int .i64 0, .int .i64 0, .int .i64 0, .int .i64 0, .int .u64 0, .int .i64 0, .int .i64 0, .int .i64 0, .int .i64 0, .int .i64 0, .int .i64 0, .int .i64 0, .int .u64 0, .int .u64 0, .int .u64 0], .slice none 0 0, .agg #[.int .i64 0, .int .i64 0]] 8 rfl (World.shaped_of_RefB (by kernel_rfl) (by kernel_rfl)) (by kernel_rfl) (by kernel_rfl) (by kernel_rfl) (door_met os _)) ?_
  intro W base args ds gs before hval hW _ _ hL _
  have hgs : gs.length = 0 := by
    obtain ⟨p, q, hA, hV, _⟩ := hW
    cases gs with
    | nil => rfl
    | cons g gs => exact hV.elim
  have hds : ds.length = 3 := by
    obtain ⟨p, q, hA, hV, _⟩ := hW
    exact Z1Q hA
  exact ZnK (E0 := B0) (m := Tt) (fn := Tryz.f3) (tb := 4) (d := 12) Z88 (O1.cons (Px.rows (U := U) (t := 35) (c := TS) (wf := fG) (by kernel_rfl) (rd34 35 Tryz.underlying35 ⟨by kernel_rfl, by kernel_rfl⟩) (fun _ => rfl)) (O1.cons (Px.ones (U := U) (t := 36) (c := (AO.list 95 4 (fun (a : DL) => .agg (Kt.BD a)) : AO Ty (List (Ty 95)))) (wf := (WL fF)) (by kernel_rfl) (CW.rows (t := 36) (e := 95) (by kernel_rfl) (by kernel_rfl) (by kernel_rfl) (rd94 95 Tryz.underlying95 ⟨by kernel_rfl, by kernel_rfl⟩)) (fun _ => rfl)) (O1.cons (Px.rows (U := U) (t := 38) (c := TQ) (wf := fD) (by kernel_rfl) (rd37 38 Tryz.underlying38 ⟨by kernel_rfl, by kernel_rfl⟩) (fun _ => rfl)) O1.nil))) rfl (by decide +kernel) laid (by decide +kernel) rfl (by kernel_rfl) (tt := true) rfl Z83
    (fun ds gs h1 h2 => by
      match ds, gs, h1, h2 with
      | [d0, d1, d2], [], _, _ => exact ⟨rfl, rfl, rfl⟩)
    (fun j t v h1 h2 => ⟨_, _, hval j t v h1 h2⟩) hW (of_laid hL) (fun W' _ pv h _ sp _ => by cases gs with | nil => exact h | cons g gs => exact h.elim) hds hgs
theorem over : Rows.auditDuetsRow.holds Tryz.pinned (OpenSpec.ofChange Rows.auditDuetsSpec) :=
  OpenClaim.holds_of_wide 3 Tryz.f3 rfl rfl rfl rfl rfl rfl rfl ⟨rfl, rfl, rfl, rfl, rfl⟩ rfl rfl rfl rfl rfl (by as_aux_lemma => kernel_rfl) Tryz.func3 closed
    (of_decide_eq_true (by as_aux_lemma => kernel_rfl)) (by unfold Func.isWrapper; first | (rw [if_pos (by decide +kernel)]; kernel_rfl) | (rw [if_neg (by decide +kernel)]; exact ⟨rfl, rfl⟩))
    (fun os started H enc _ => lifted os started H enc)
theorem card1 : Rows.auditDuetsRow.wfByText (OpenSpec.ofChange Rows.auditDuetsSpec) = true := by kernel_rfl
theorem card2 : Tryz.prog.mainIs = some (Rows.auditDuetsCard.stood.harness.1, Rows.auditDuetsCard.stood.harness.2.toList) := by kernel_rfl
theorem card3 : true = Tryz.prog.looks [] := by kernel_rfl
theorem card4 : false = Rows.auditDuetsRow.goesBy Tryz.prog := by kernel_rfl
theorem card5 : (Tryz.f3.params.toList.all fun u => !Tryz.prog.wantsStandIn u) = true := by kernel_rfl
theorem card6 : Tryz.prog.funcNamed "wireless/wirelesslaw58.AuditDuets" = some 3 := by kernel_rfl
theorem card7 (f : FuncId) (fn : Func) (hf : Tryz.prog.funcNamed Rows.auditDuetsRow.func = some f) (hfn : Tryz.prog.funcs[f]? = some fn) : true = Tryz.prog.looks [] /\ ∀ (j : Nat) t, fn.params[j]? = some t -> Tryz.prog.wantsStandIn t = false := by
  obtain rfl : f = 3 := Option.some.inj (card6.symm.trans hf) |>.symm
  obtain rfl : fn = Tryz.f3 := (Option.some.inj (Tryz.func3.symm.trans hfn)).symm
  refine ⟨card3, fun j t ht => ?_⟩
  have hm : t ∈ Tryz.f3.params.toList := Array.mem_toList_iff.2 (Array.mem_of_getElem? ht)
  have h : (!Tryz.prog.wantsStandIn t) = true := List.all_eq_true.1 card5 t hm
  cases hw : Tryz.prog.wantsStandIn t with
  | false => rfl
  | true => rw [hw] at h; cases h
theorem proved : Rows.AuditDuetsCardSaid :=
  Claim7.holds_tied_plain_at .later [] [.data, .data] true Rows.auditDuetsCard.stood.harness true over (fun _ h => by cases h) card1 (fun _ h => by cases h) auditDuets_row_tie rfl ⟨rfl, rfl⟩ card2 rfl card7 card4
#print axioms proved
end Go.Proofs.YtddbklgndkpipaaGreatDoor.law3
