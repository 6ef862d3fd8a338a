/-
  The state with any latency is the document's, also instead of any state. No conditions: every input.
-/
import Derived.Test.YtcjccaonfgcakaaRows
import Derived.Test.YtcjccaonfgcakaaPa
import Derived.OpenShut
namespace Go.Proofs.Ytcjccaonfgcakaa.law10
open Go Go.Proofs.Ytcjccaonfgcakaa.Le Go.Proofs.Ytcjccaonfgcakaa
open Go.ChangeShapes Go.WideShapes Go.ChangeAt Go.RowKit
set_option linter.unusedVariables false
set_option maxRecDepth 100000
def wf30 (x : api_Listening) : Prop := (WI .i64) x.Latency ∧ (WI .i64) x.Skipped ∧ WB x.Full ∧ True
theorem seg30 : SegRd Try.prog (Codec.pair (Codec.int .i64 : Codec Ty Int) (Codec.pair (Codec.int .i64 : Codec Ty Int) (Codec.pair (Codec.bool : Codec Ty Bool) Codec.unit))) [(0, 3), (1, 3), (2, 4)] 0 3 (fun x => wf30 (⟨x.1, x.2.1, x.2.2.1⟩)) := (SegRd.pair (off := 0) (k := 1) (CodecRd.int (t := 3) (by kernel_rfl)) (by kernel_rfl) (SegRd.pair (off := 1) (k := 1) (CodecRd.int (t := 3) (by kernel_rfl)) (by kernel_rfl) (SegRd.pair (off := 2) (k := 1) (CodecRd.bool (t := 4) (by kernel_rfl)) (by kernel_rfl) (SegRd.unit rfl))))
theorem rd30 (t : Nat) {dd : TypeDesc} (ht : Try.prog.underlying t = some dd) (hs : (segsOf Try.prog dd = some [(0, 3), (1, 3), (2, 4)]) ∧ Try.prog.cellsOf t = 3) : CodecRd Try.prog cd30 t wf30 := (CodecRd.row ht hs.1 hs.2 seg30).iso (fun _ => rfl)
theorem own : ownKnob Try.prog.godebug = none := by kernel_rfl
theorem laid : laidOutB Try.prog = true := by kernel_rfl
theorem lifted (os : Os) (started : os.Started) (H : Type) (enc : TypeId × Value → H) :
    ReturnsInHanded {} Try.checked os 10 .any (Rows.latencySetsSpec.pre6 enc Try.prog Try.f10 Rows.latencySetsRow.domain false) (Rows.latencySetsSpec.post enc Try.prog Try.f10 false true false false) := by
  refine returnsInHanded_of_change (C := Try.checked) own started (by kernel_rfl) Try.func10
    (ChangeSpec.witness6 (enc := enc) (C := Try.checked) false ⟨#[], #[.agg #[.int .i64 0, .int .i64 0, .bool false], .int .i64 0], []⟩ 8 (by kernel_rfl) (by kernel_rfl) (by kernel_rfl) (by kernel_rfl)) ?_
  intro W base args ds gs before hval hW hcnd _
  have hgs : gs.length = 0 := by
    obtain ⟨p, q, hA, hV, _⟩ := hW
    cases gs with
    | nil => rfl
    | cons g gs => exact hV.elim
  have hds : ds.length = 2 := by
    obtain ⟨p, q, hA, hV, _⟩ := hW
    exact trodAll_len hA
  exact law_ok (E0 := B0) (m := M10) (fn := Try.f10) (tb := 4) (d := 12) ok10 (AllRd.cons (TyRd.rows (U := U) (t := 31) (c := cd30) (wf := wf30) (by kernel_rfl) (rd30 31 Try.underlying31 ⟨by kernel_rfl, by kernel_rfl⟩) (fun _ => rfl)) (AllRd.cons (TyRd.ones (U := U) (t := 3) (c := (Codec.int .i64 : Codec Ty Int)) (wf := (WI .i64)) (by kernel_rfl) (CodecRd.int (t := 3) (by kernel_rfl)) (fun _ => rfl)) AllRd.nil)) rfl (by decide +kernel) laid (by decide +kernel) rfl (by kernel_rfl) (tt := true) rfl (fun x _ => true10 x)
    (fun ds gs h1 h2 => by
      match ds, gs, h1, h2 with
      | [d0, d1], [], _, _ => exact ⟨rfl, rfl, rfl⟩)
    (fun j t v h1 h2 => ⟨_, _, hval j t v h1 h2⟩) hW (fun g r h => by cases h) (fun W' _ pv h _ sp _ => by cases gs with | nil => exact h | cons g gs => exact h.elim) hds hgs
theorem over : Rows.latencySetsRow.holds Try.pinned (OpenSpec.ofChange Rows.latencySetsSpec) :=
  OpenClaim.holds_of_wide 10 Try.f10 rfl rfl rfl rfl rfl rfl rfl ⟨rfl, rfl, rfl, rfl, rfl⟩ rfl rfl rfl rfl rfl (by kernel_rfl) Try.func10 (by kernel_rfl)
    (of_decide_eq_true (by kernel_rfl)) (by unfold Func.isWrapper; first | (rw [if_pos (by decide +kernel)]; kernel_rfl) | (rw [if_neg (by decide +kernel)]; exact ⟨rfl, rfl⟩))
    (fun os started H enc _ => lifted os started H enc)
theorem proved : Rows.LatencySetsSaid := over
#print axioms proved
end Go.Proofs.Ytcjccaonfgcakaa.law10
