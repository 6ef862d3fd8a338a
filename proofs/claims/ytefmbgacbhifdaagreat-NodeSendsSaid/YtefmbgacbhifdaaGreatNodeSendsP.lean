/-
  What any message of any node becomes, or the error. No conditions but the ranges of the arguments' types.
-/
import Derived.Test.YtefmbgacbhifdaaGreatRows
import Derived.Test.YtefmbgacbhifdaaGreatQx
import Derived.OpenShut
import Derived.Test.YtefmbgacbhifdaaGreatNodeSendsFc
namespace Go.Proofs.YtefmbgacbhifdaaGreat.law3
open Go Go.Proofs.YtefmbgacbhifdaaGreat.Le Go.Proofs.YtefmbgacbhifdaaGreat
open Go.ChangeShapes Go.WideShapes Go.ChangeAt Go.RowKit
set_option maxRecDepth 100000
def wf25 (x : Z04) : Prop := (WI .u16) x.A ∧ (WI .u16) x.B ∧ (WI .u64) x.Device ∧ (WI .u64) x.App ∧ (WI .u64) x.Net ∧ WB x.Relay ∧ WB x.Friends ∧ True
theorem seg25 : SegRd Tryz.prog (Codec.pair cu16 (Codec.pair cu16 (Codec.pair cu64 (Codec.pair cu64 (Codec.pair cu64 (Codec.pair cbo (Codec.pair cbo Codec.unit))))))) [(0, 22), (1, 22), (2, 24), (3, 24), (4, 24), (5, 4), (6, 4)] 0 7 (fun x => wf25 (⟨x.1, x.2.1, x.2.2.1, x.2.2.2.1, x.2.2.2.2.1, x.2.2.2.2.2.1, x.2.2.2.2.2.2.1⟩)) := (SegRd.pair (off := 0) (k := 1) (Z09.int (t := 22) (by kernel_rfl)) (by kernel_rfl) (SegRd.pair (off := 1) (k := 1) (Z09.int (t := 22) (by kernel_rfl)) (by kernel_rfl) (SegRd.pair (off := 2) (k := 1) (Z09.int (t := 24) (by kernel_rfl)) (by kernel_rfl) (SegRd.pair (off := 3) (k := 1) (Z09.int (t := 24) (by kernel_rfl)) (by kernel_rfl) (SegRd.pair (off := 4) (k := 1) (Z09.int (t := 24) (by kernel_rfl)) (by kernel_rfl) (SegRd.pair (off := 5) (k := 1) (Z09.bool (t := 4) (by kernel_rfl)) (by kernel_rfl) (SegRd.pair (off := 6) (k := 1) (Z09.bool (t := 4) (by kernel_rfl)) (by kernel_rfl) (SegRd.unit rfl))))))))
theorem rd25 (t : Nat) {dd : TypeDesc} (ht : Tryz.prog.underlying t = some dd) (hs : (ZaN Tryz.prog dd = some [(0, 22), (1, 22), (2, 24), (3, 24), (4, 24), (5, 4), (6, 4)]) ∧ Tryz.prog.cellsOf t = 7) : Z09 Tryz.prog cd25 t wf25 := (Z09.row ht hs.1 hs.2 seg25).iso (fun _ => rfl)
def WfL (x : Args U Z1y.ts) : Prop := wf25 x.1 ∧ (WI .u16) x.2.1 ∧ WB x.2.2.1 ∧ (WI .i64) x.2.2.2.1 ∧ (WL (WI .u8)) x.2.2.2.2.1 ∧ True
theorem wi16 {a : Int} (h : WI .u16 a) : 0 ≤ a ∧ a < 65536 := by
  simp only [WI, Lit.wf, Bool.and_eq_true, decide_eq_true_eq] at h
  have h1 : (IntKind.u16.min) = 0 := rfl
  have h2 : (IntKind.u16.max) = 65535 := rfl
  rw [h1, h2] at h
  omega
theorem wi64 {a : Int} (h : WI .u64 a) : 0 ≤ a ∧ a < 18446744073709551616 := by
  simp only [WI, Lit.wf, Bool.and_eq_true, decide_eq_true_eq] at h
  have h1 : (IntKind.u64.min) = 0 := rfl
  have h2 : (IntKind.u64.max) = 18446744073709551615 := rfl
  rw [h1, h2] at h
  omega
theorem Zaq (x : Args U Z1y.ts) (h : WfL x) : Z1y.fn x = some true := by
  have hs := h.1
  exact Ze7 x.1 (wi16 hs.1) (wi64 hs.2.2.1) (wi64 hs.2.2.2.1) x.2.1 (wi16 h.2.1) x.2.2.1 x.2.2.2.1 x.2.2.2.2.1
theorem own : ownKnob Tryz.prog.godebug = none := by kernel_rfl
theorem laid : laidOutB Tryz.prog = true := by kernel_rfl
theorem lifted (os : Os) (started : os.Started) (H : Type) (enc : TypeId × Value → H) :
    ReturnsInHanded {} Tryz.checked os 3 .any (Rows.nodeSendsSpec.pre6 enc Tryz.prog Tryz.f3 Rows.nodeSendsRow.domain false) (Rows.nodeSendsSpec.post enc Tryz.prog Tryz.f3 false true false false) := by
  refine returnsInHanded_of_change (C := Tryz.checked) own started (by kernel_rfl) Tryz.func3
    (ChangeSpec.witness6 (enc := enc) (C := Tryz.checked) false ⟨#[], #[.agg #[.int .u16 0, .int .u16 0, .int .u64 0, .int .u64 0, .int .u64 0, .bool false, .bool false], .int .u16 0, .bool false, .int .i64 0, .slice none 0 0], []⟩ 8 (by kernel_rfl) (by kernel_rfl) (by kernel_rfl) (by kernel_rfl)) ?_
  intro W base args ds gs before hval hW hcnd _
  have hgs : gs.length = 0 := by
    obtain ⟨p, q, hA, hV, _⟩ := hW
    cases gs with
    | nil => rfl
    | cons g gs => exact hV.elim
  have hds : ds.length = 5 := by
    obtain ⟨p, q, hA, hV, _⟩ := hW
    exact ZgN hA
  exact Zz1 (E0 := B0) (m := Z1y) (fn := Tryz.f3) (tb := 4) (d := 12) ZdH (AllRd.cons (TyRd.rows (U := U) (t := 26) (c := cd25) (wf := wf25) (by kernel_rfl) (rd25 26 Tryz.underlying26 ⟨by kernel_rfl, by kernel_rfl⟩) (fun _ => rfl)) (AllRd.cons (TyRd.ones (U := U) (t := 22) (c := cu16) (wf := (WI .u16)) (by kernel_rfl) (Z09.int (t := 22) (by kernel_rfl)) (fun _ => rfl)) (AllRd.cons (TyRd.ones (U := U) (t := 4) (c := cbo) (wf := WB) (by kernel_rfl) (Z09.bool (t := 4) (by kernel_rfl)) (fun _ => rfl)) (AllRd.cons (TyRd.ones (U := U) (t := 3) (c := ci64) (wf := (WI .i64)) (by kernel_rfl) (Z09.int (t := 3) (by kernel_rfl)) (fun _ => rfl)) (AllRd.cons (TyRd.ones (U := U) (t := 27) (c := (Codec.list 5 1 (fun (a : Int) => cu8.oneV a) : Codec Ty (List (Ty 5)))) (wf := (WL (WI .u8))) (by kernel_rfl) (Z09.ones (t := 27) (e := 5) (by kernel_rfl) (by kernel_rfl) (by kernel_rfl) (Z09.int (t := 5) (by kernel_rfl))) (fun _ => rfl)) AllRd.nil))))) rfl (by decide +kernel) laid (by decide +kernel) rfl (by kernel_rfl) (tt := true) rfl Zaq
    (fun ds gs h1 h2 => by
      match ds, gs, h1, h2 with
      | [d0, d1, d2, d3, d4], [], _, _ => exact ⟨rfl, rfl, rfl⟩)
    (fun j t v h1 h2 => ⟨_, _, hval j t v h1 h2⟩) hW (fun g r h => by cases h) (fun W' _ pv h _ sp _ => by cases gs with | nil => exact h | cons g gs => exact h.elim) hds hgs
theorem over : Rows.nodeSendsRow.holds Tryz.pinned (OpenSpec.ofChange Rows.nodeSendsSpec) :=
  OpenClaim.holds_of_wide 3 Tryz.f3 rfl rfl rfl rfl rfl rfl rfl ⟨rfl, rfl, rfl, rfl, rfl⟩ rfl rfl rfl rfl rfl (by as_aux_lemma => kernel_rfl) Tryz.func3 closed
    (of_decide_eq_true (by as_aux_lemma => kernel_rfl)) (by unfold Func.isWrapper; first | (rw [if_pos (by decide +kernel)]; kernel_rfl) | (rw [if_neg (by decide +kernel)]; exact ⟨rfl, rfl⟩))
    (fun os started H enc _ => lifted os started H enc)
theorem proved : Rows.NodeSendsSaid := over
#print axioms proved
end Go.Proofs.YtefmbgacbhifdaaGreat.law3
