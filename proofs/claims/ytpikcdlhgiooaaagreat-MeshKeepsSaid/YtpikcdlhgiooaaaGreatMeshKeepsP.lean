/-
  What a node that is alone does in a mesh is what it does by itself. No conditions but the ranges of the arguments' types.
-/
import Derived.Test.YtpikcdlhgiooaaaGreatRows
import Derived.Test.YtpikcdlhgiooaaaGreatQ1
import Derived.OpenShut
import Derived.Test.YtpikcdlhgiooaaaGreatMeshKeepsFc
namespace Go.Proofs.YtpikcdlhgiooaaaGreat.law3
open Go Go.Proofs.YtpikcdlhgiooaaaGreat.Le Go.Proofs.YtpikcdlhgiooaaaGreat
open Go.ChangeShapes Go.WideShapes Go.ChangeAt Go.RowKit
set_option linter.unusedVariables false
set_option maxRecDepth 100000
def WfL (x : Args U M_law54_MeshKeeps.ts) : Prop := WB x.1 ∧ (WI .u8) x.2.1 ∧ True
theorem true_law54_MeshKeeps (x : Args U M_law54_MeshKeeps.ts) (h : WfL x) : M_law54_MeshKeeps.fn x = some true := by
  have hs : WI .u8 x.2.1 := h.2.1
  simp only [WI, Lit.wf, Bool.and_eq_true, decide_eq_true_eq] at hs
  have h1 : (IntKind.u8.min) = 0 := rfl
  have h2 : (IntKind.u8.max) = 255 := rfl
  rw [h1, h2] at hs
  exact law_MeshKeeps x.1 x.2.1 (by omega) (by omega) rfl
theorem own : ownKnob Tryz.prog.godebug = none := by kernel_rfl
theorem laid : laidOutB Tryz.prog = true := by kernel_rfl
theorem handedZ {H : Type} {enc : TypeId × Value → H} {a : Assume} {C : Checked} {os : Os} {f : FuncId} {fn : Func} {s : ChangeSpec} {conds : List PathCond} {apart fresh handsOn again : Bool}
    (own : ownKnob C.prog.godebug = none) (started : os.Started) (noInit : C.prog.inits.idxOf? f = none) (hfn : C.prog.funcs[f]? = some fn)
    (witness : ∃ (w : World) (tape : Tape) (i : Input), w.os = os ∧ (w.forCall tape i).Shaped C.prog ∧ i.vars = [] ∧ Input.okWide C.prog (w.forCall tape i) .any w.heap.size f i ∧
      s.pre6 enc C.prog fn conds apart (w.forCall tape i).memory i.args ∧ a.holds C.prog (lone (Frame.enter C.prog f i.args .normal) [] (w.forCall tape i)))
    (contract : ∀ (W : World) (base : Nat) (args : Array Value) (ds gs : List (DataW H)) (before : List MemPlace),
      (∀ (j : Nat) t v, fn.params[j]? = some t → args[j]? = some v → Value.okWide C.prog W .any base t v) →
      DataW.Whole enc C.prog fn.params.toList s.vars apart W args.toList ds gs before →
      conds.all (PathCond.test C.prog ⟨fn.params.toList, ds, s.plain.varTypes C.prog, gs⟩) = true →
      (DataW.weightsEach C.prog (fn.params.toList ++ s.plain.varTypes C.prog) (ds ++ gs)).all (· ≤ reachBytes) = true →
      Calls C.prog f args W fun e W' => ∃ v, e = .returned v ∧ s.post enc C.prog fn apart fresh handsOn again W args v W') :
    ReturnsInHanded a C os f .any (s.pre6 enc C.prog fn conds apart) (s.post enc C.prog fn apart fresh handsOn again) := by
  refine returnsInHanded_of_calls own started noInit witness ?_
  intro w tape i _ _ _ hok hpre _
  obtain ⟨_, _, _, fn', hfn', _, _, _, _, hval⟩ := hok
  have e : fn' = fn := Option.some.inj (hfn'.symm.trans hfn)
  subst e
  obtain ⟨⟨ds, gs, before, hw, hc⟩, hz⟩ := hpre
  have hw' := DataW.Whole.of_heap (w' := w.forCall tape i) (by rfl) hw
  refine (contract (w.forCall tape i) w.heap.size i.args ds gs before hval hw' hc (hz.weights hw)).mono fun e W' ⟨v, he, hp⟩ => ?_
  subst he
  exact ChangeSpec.post_blind hp
theorem lifted (os : Os) (started : os.Started) (H : Type) (enc : TypeId × Value → H) :
    ReturnsInHanded {} Tryz.checked os 3 .any (Rows.meshKeepsSpec.pre6 enc Tryz.prog Tryz.f3 Rows.meshKeepsRow.domain false) (Rows.meshKeepsSpec.post enc Tryz.prog Tryz.f3 false true false false) := by
  refine handedZ (C := Tryz.checked) own started (by kernel_rfl) Tryz.func3
    (ChangeSpec.witness6 (enc := enc) (C := Tryz.checked) false ⟨#[], #[.bool false, .int .u8 0], []⟩ 8 (by kernel_rfl) (by kernel_rfl) (by kernel_rfl) (by kernel_rfl)) ?_
  intro W base args ds gs before hval hW _ hz
  have hgs : gs.length = 0 := by
    obtain ⟨p, q, hA, hV, _⟩ := hW
    cases gs with
    | nil => rfl
    | cons g gs => exact hV.elim
  have hds : ds.length = 2 := by
    obtain ⟨p, q, hA, hV, _⟩ := hW
    exact trodAll_len hA
  exact law_ok (E0 := B0) (m := M_law54_MeshKeeps) (fn := Tryz.f3) (tb := 4) (d := 12) ok_law54_MeshKeeps (AllRd.cons (TyRd.ones (U := U) (t := 4) (c := cbo) (wf := WB) (by kernel_rfl) (CodecRd.bool (t := 4) (by kernel_rfl)) (fun _ => rfl)) (AllRd.cons (TyRd.ones (U := U) (t := 5) (c := cu8) (wf := (WI .u8)) (by kernel_rfl) (CodecRd.int (t := 5) (by kernel_rfl)) (fun _ => rfl)) AllRd.nil)) rfl (by decide +kernel) laid (by decide +kernel) rfl (by kernel_rfl) (tt := true) rfl true_law54_MeshKeeps
    (fun ds gs h1 h2 => by
      match ds, gs, h1, h2 with
      | [d0, d1], [], _, _ => exact ⟨rfl, rfl, rfl⟩)
    (fun j t v h1 h2 => ⟨_, _, hval j t v h1 h2⟩) hW (fun g r h => by cases h) (fun W' _ pv h _ sp _ => by cases gs with | nil => exact h | cons g gs => exact h.elim) hds hgs hz
theorem over : Rows.meshKeepsRow.holds Tryz.pinned (OpenSpec.ofChange Rows.meshKeepsSpec) :=
  OpenClaim.holds_of_wide 3 Tryz.f3 rfl rfl rfl rfl rfl rfl rfl ⟨rfl, rfl, rfl, rfl, rfl⟩ rfl rfl rfl rfl rfl (by as_aux_lemma => kernel_rfl) Tryz.func3 closed
    (of_decide_eq_true (by as_aux_lemma => kernel_rfl)) (by unfold Func.isWrapper; first | (rw [if_pos (by decide +kernel)]; kernel_rfl) | (rw [if_neg (by decide +kernel)]; exact ⟨rfl, rfl⟩))
    (fun os started H enc _ => lifted os started H enc)
theorem proved : Rows.MeshKeepsSaid := over
#print axioms proved
end Go.Proofs.YtpikcdlhgiooaaaGreat.law3
