/-
  In any sequence of at most 200 events and changes no more events are skipped in a row than the latency permits. No conditions: every input.
-/
import Derived.Test.YtcjccaonfgcakaaRows
import Derived.Test.YtcjccaonfgcakaaPa
import Derived.OpenShut
namespace Go.Proofs.Ytcjccaonfgcakaa.law13
open Go Go.Proofs.Ytcjccaonfgcakaa.Le Go.Proofs.Ytcjccaonfgcakaa
open Go.ChangeShapes Go.WideShapes Go.ChangeAt Go.RowKit
set_option linter.unusedVariables false
set_option maxRecDepth 100000
def wf41 (x : wirelesslaw25_Turn) : Prop := (WI .i64) x.Do ∧ WB x.Acked ∧ (WI .i64) x.Latency ∧ True
theorem seg41 : SegRd Try.prog (Codec.pair (Codec.int .i64 : Codec Ty Int) (Codec.pair (Codec.bool : Codec Ty Bool) (Codec.pair (Codec.int .i64 : Codec Ty Int) Codec.unit))) [(0, 3), (1, 4), (2, 3)] 0 3 (fun x => wf41 (⟨x.1, x.2.1, x.2.2.1⟩)) := (SegRd.pair (off := 0) (k := 1) (CodecRd.int (t := 3) (by kernel_rfl)) (by kernel_rfl) (SegRd.pair (off := 1) (k := 1) (CodecRd.bool (t := 4) (by kernel_rfl)) (by kernel_rfl) (SegRd.pair (off := 2) (k := 1) (CodecRd.int (t := 3) (by kernel_rfl)) (by kernel_rfl) (SegRd.unit rfl))))
theorem rd41 (t : Nat) {dd : TypeDesc} (ht : Try.prog.underlying t = some dd) (hs : (segsOf Try.prog dd = some [(0, 3), (1, 4), (2, 3)]) ∧ Try.prog.cellsOf t = 3) : CodecRd Try.prog cd41 t wf41 := (CodecRd.row ht hs.1 hs.2 seg41).iso (fun _ => rfl)
theorem own : ownKnob Try.prog.godebug = none := by kernel_rfl
theorem laid : laidOutB Try.prog = true := by kernel_rfl
theorem lifted (os : Os) (started : os.Started) (H : Type) (enc : TypeId × Value → H) :
    ReturnsInHanded {} Try.checked os 13 .any (Rows.latencyBoundSpec.pre6 enc Try.prog Try.f13 Rows.latencyBoundRow.domain false) (Rows.latencyBoundSpec.post enc Try.prog Try.f13 false true false false) := by
  refine returnsInHanded_of_change (C := Try.checked) own started (by kernel_rfl) Try.func13
    (ChangeSpec.witness6 (enc := enc) (C := Try.checked) false ⟨#[], #[.int .i64 0, .slice none 0 0], []⟩ 8 (by kernel_rfl) (by kernel_rfl) (by kernel_rfl) (by kernel_rfl)) ?_
  intro W base args ds gs before hval hW hcnd _
  have hgs : gs.length = 0 := by
    obtain ⟨p, q, hA, hV, _⟩ := hW
    cases gs with
    | nil => rfl
    | cons g gs => exact hV.elim
  have hds : ds.length = 2 := by
    obtain ⟨p, q, hA, hV, _⟩ := hW
    exact trodAll_len hA
  exact law_ok (E0 := B0) (m := M13) (fn := Try.f13) (tb := 4) (d := 12) ok13 (AllRd.cons (TyRd.ones (U := U) (t := 3) (c := (Codec.int .i64 : Codec Ty Int)) (wf := (WI .i64)) (by kernel_rfl) (CodecRd.int (t := 3) (by kernel_rfl)) (fun _ => rfl)) (AllRd.cons (TyRd.ones (U := U) (t := 40) (c := (Codec.list 42 3 (fun (a : wirelesslaw25_Turn) => .agg (cd41.encV a)) : Codec Ty (List (Ty 42)))) (wf := (WL wf41)) (by kernel_rfl) (CodecRd.rows (t := 40) (e := 42) (by kernel_rfl) (by kernel_rfl) (by kernel_rfl) (rd41 42 Try.underlying42 ⟨by kernel_rfl, by kernel_rfl⟩)) (fun _ => rfl)) AllRd.nil)) rfl (by decide +kernel) laid (by decide +kernel) rfl (by kernel_rfl) (tt := true) rfl (fun x _ => true13 x)
    (fun ds gs h1 h2 => by
      match ds, gs, h1, h2 with
      | [d0, d1], [], _, _ => exact ⟨rfl, rfl, rfl⟩)
    (fun j t v h1 h2 => ⟨_, _, hval j t v h1 h2⟩) hW (fun g r h => by cases h) (fun W' _ pv h _ sp _ => by cases gs with | nil => exact h | cons g gs => exact h.elim) hds hgs
theorem over : Rows.latencyBoundRow.holds Try.pinned (OpenSpec.ofChange Rows.latencyBoundSpec) :=
  OpenClaim.holds_of_wide 13 Try.f13 rfl rfl rfl rfl rfl rfl rfl ⟨rfl, rfl, rfl, rfl, rfl⟩ rfl rfl rfl rfl rfl (by kernel_rfl) Try.func13 (by kernel_rfl)
    (of_decide_eq_true (by kernel_rfl)) (by unfold Func.isWrapper; first | (rw [if_pos (by decide +kernel)]; kernel_rfl) | (rw [if_neg (by decide +kernel)]; exact ⟨rfl, rfl⟩))
    (fun os started H enc _ => lifted os started H enc)
theorem proved : Rows.LatencyBoundSaid := over
#print axioms proved
end Go.Proofs.Ytcjccaonfgcakaa.law13
