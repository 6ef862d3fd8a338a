/-
  A node processes a message that another node with its keys sent to it, with its bytes, and a node with another network key does not. No conditions but the ranges of the arguments' types.
-/
import Derived.Test.YtefmbgacbhifdaaGreatRows
import Derived.Test.YtefmbgacbhifdaaGreatQ1
import Derived.OpenShut
import Derived.Test.YtefmbgacbhifdaaGreatNodeHearsFc
namespace Go.Proofs.YtefmbgacbhifdaaGreat.law4
open Go Go.Proofs.YtefmbgacbhifdaaGreat.Le Go.Proofs.YtefmbgacbhifdaaGreat
open Go.ChangeShapes Go.WideShapes Go.ChangeAt Go.RowKit
set_option maxRecDepth 100000
def ZDf (x : ZX) : Prop := (WI .u16) x.A /\ (WI .u16) x.B /\ (WI .u64) x.Device /\ (WI .u64) x.App /\ (WI .u64) x.Net /\ WB x.Z06 /\ WB x.Z1U /\ True
theorem seg25 : ZfQ Tryz.prog (Z8.pair Z8B (Z8.pair Z8B (Z8.pair Z75 (Z8.pair Z75 (Z8.pair Z75 (Z8.pair cbo (Z8.pair cbo Z8.unit))))))) [(0, 22), (1, 22), (2, 24), (3, 24), (4, 24), (5, 4), (6, 4)] 0 7 (fun x => ZDf (⟨x.1, x.2.1, x.2.2.1, x.2.2.2.1, x.2.2.2.2.1, x.2.2.2.2.2.1, x.2.2.2.2.2.2.1⟩)) := (ZfQ.pair (off := 0) (k := 1) (Z0P.int (t := 22) (by kernel_rfl)) (by kernel_rfl) (ZfQ.pair (off := 1) (k := 1) (Z0P.int (t := 22) (by kernel_rfl)) (by kernel_rfl) (ZfQ.pair (off := 2) (k := 1) (Z0P.int (t := 24) (by kernel_rfl)) (by kernel_rfl) (ZfQ.pair (off := 3) (k := 1) (Z0P.int (t := 24) (by kernel_rfl)) (by kernel_rfl) (ZfQ.pair (off := 4) (k := 1) (Z0P.int (t := 24) (by kernel_rfl)) (by kernel_rfl) (ZfQ.pair (off := 5) (k := 1) (Z0P.bool (t := 4) (by kernel_rfl)) (by kernel_rfl) (ZfQ.pair (off := 6) (k := 1) (Z0P.bool (t := 4) (by kernel_rfl)) (by kernel_rfl) (ZfQ.unit rfl))))))))
theorem rd25 (t : Nat) {dd : TypeDesc} (ht : Tryz.prog.underlying t = some dd) (hs : (ZeQ Tryz.prog dd = some [(0, 22), (1, 22), (2, 24), (3, 24), (4, 24), (5, 4), (6, 4)]) /\ Tryz.prog.cellsOf t = 7) : Z0P Tryz.prog ZBp t ZDf := (Z0P.row ht hs.1 hs.2 seg25).iso (fun _ => rfl)
def WfL (x : ZjY U Z2F.ts) : Prop := ZDf x.1 /\ (WI .u64) x.2.1 /\ WB x.2.2.1 /\ (WL (WI .u8)) x.2.2.2.1 /\ True
theorem wi16 {a : Int} (h : WI .u16 a) : 0 <= a /\ a < 65536 := by
  simp only [WI, Lit.wf, Bool.and_eq_true, decide_eq_true_eq] at h
  have h1 : (IntKind.u16.min) = 0 := rfl
  have h2 : (IntKind.u16.max) = 65535 := rfl
  rw [h1, h2] at h
  omega
theorem ZDm {a : Int} (h : WI .u64 a) : 0 <= a /\ a < 18446744073709551616 := by
  simp only [WI, Lit.wf, Bool.and_eq_true, decide_eq_true_eq] at h
  have h1 : (IntKind.u64.min) = 0 := rfl
  have h2 : (IntKind.u64.max) = 18446744073709551615 := rfl
  rw [h1, h2] at h
  omega
theorem wi8 {a : Int} (h : WI .u8 a) : 0 <= a /\ a < 256 := by
  simp only [WI, Lit.wf, Bool.and_eq_true, decide_eq_true_eq] at h
  have h1 : (IntKind.u8.min) = 0 := rfl
  have h2 : (IntKind.u8.max) = 255 := rfl
  rw [h1, h2] at h
  omega
theorem Zed (x : ZjY U Z2F.ts) (h : WfL x) : Z2F.fn x = some true := by
  have hs := h.1
  exact ZhW x.1 (wi16 hs.1) (wi16 hs.2.1) (ZDm hs.2.2.1) (ZDm hs.2.2.2.1) (ZDm hs.2.2.2.2.1) x.2.1 (ZDm h.2.1) x.2.2.1 x.2.2.2.1 (fun y hy => wi8 (h.2.2.2.1.2 y hy))
theorem own : ownKnob Tryz.prog.godebug = none := by kernel_rfl
theorem laid : laidOutB Tryz.prog = true := by kernel_rfl
theorem lifted (os : Os) (started : os.Started) (H : Type) (enc : TypeId × Value -> H) :
    ReturnsInHanded {} Tryz.checked os 4 .any (Rows.nodeHearsSpec.pre6 enc Tryz.prog Tryz.f4 Rows.nodeHearsRow.domain false) (Rows.nodeHearsSpec.post enc Tryz.prog Tryz.f4 false true false false) := by
  refine returnsInHanded_of_change (C := Tryz.checked) own started (by kernel_rfl) Tryz.func4
    (ChangeSpec.witness6 (enc := enc) (C := Tryz.checked) false ⟨#[], #[.agg #[.int .u16 0, .int .u16 0, .int .u64 0, .int .u64 0, .int .u64 0, .bool false, .bool false], .int .u64 0, .bool false, .slice none 0 0], []⟩ 8 (by kernel_rfl) (by kernel_rfl) (by kernel_rfl) (by kernel_rfl)) ?_
  intro W base args ds gs before hval hW hcnd _
  have hgs : gs.length = 0 := by
    obtain ⟨p, q, hA, hV, _⟩ := hW
    cases gs with
    | nil => rfl
    | cons g gs => exact hV.elim
  have hds : ds.length = 4 := by
    obtain ⟨p, q, hA, hV, _⟩ := hW
    exact ZkC hA
  exact ZBB (E0 := B0) (m := Z2F) (fn := Tryz.f4) (tb := 4) (d := 12) Zg2 (Zn2.cons (Zzb.rows (U := U) (t := 26) (c := ZBp) (wf := ZDf) (by kernel_rfl) (rd25 26 Tryz.underlying26 ⟨by kernel_rfl, by kernel_rfl⟩) (fun _ => rfl)) (Zn2.cons (Zzb.ones (U := U) (t := 24) (c := Z75) (wf := (WI .u64)) (by kernel_rfl) (Z0P.int (t := 24) (by kernel_rfl)) (fun _ => rfl)) (Zn2.cons (Zzb.ones (U := U) (t := 4) (c := cbo) (wf := WB) (by kernel_rfl) (Z0P.bool (t := 4) (by kernel_rfl)) (fun _ => rfl)) (Zn2.cons (Zzb.ones (U := U) (t := 27) (c := (Z8.list 5 1 (fun (a : Int) => cu8.ZF a) : Z8 Ty (List (Ty 5)))) (wf := (WL (WI .u8))) (by kernel_rfl) (Z0P.ones (t := 27) (e := 5) (by kernel_rfl) (by kernel_rfl) (by kernel_rfl) (Z0P.int (t := 5) (by kernel_rfl))) (fun _ => rfl)) Zn2.nil)))) rfl (by decide +kernel) laid (by decide +kernel) rfl (by kernel_rfl) (tt := true) rfl Zed
    (fun ds gs h1 h2 => by
      match ds, gs, h1, h2 with
      | [d0, d1, d2, d3], [], _, _ => exact ⟨rfl, rfl, rfl⟩)
    (fun j t v h1 h2 => ⟨_, _, hval j t v h1 h2⟩) hW (fun g r h => by cases h) (fun W' _ pv h _ sp _ => by cases gs with | nil => exact h | cons g gs => exact h.elim) hds hgs
theorem over : Rows.nodeHearsRow.holds Tryz.pinned (OpenSpec.ofChange Rows.nodeHearsSpec) :=
  OpenClaim.holds_of_wide 4 Tryz.f4 rfl rfl rfl rfl rfl rfl rfl ⟨rfl, rfl, rfl, rfl, rfl⟩ rfl rfl rfl rfl rfl (by as_aux_lemma => kernel_rfl) Tryz.func4 closed
    (of_decide_eq_true (by as_aux_lemma => kernel_rfl)) (by unfold Func.isWrapper; first | (rw [if_pos (by decide +kernel)]; kernel_rfl) | (rw [if_neg (by decide +kernel)]; exact ⟨rfl, rfl⟩))
    (fun os started H enc _ => lifted os started H enc)
theorem proved : Rows.NodeHearsSaid := over
#print axioms proved
end Go.Proofs.YtefmbgacbhifdaaGreat.law4
