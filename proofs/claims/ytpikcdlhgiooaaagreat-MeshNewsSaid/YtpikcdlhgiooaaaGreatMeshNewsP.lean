/-
  Any nodes and links make a mesh, or not, as the document says. No conditions but the sizes that the form sets.
-/
import Derived.Test.YtpikcdlhgiooaaaGreatRows
import Derived.Test.YtpikcdlhgiooaaaGreatQ1
import Derived.OpenShut
import Derived.Test.YtpikcdlhgiooaaaGreatMeshNewsFc
namespace Go.Proofs.YtpikcdlhgiooaaaGreat.law4
open Go Go.Proofs.YtpikcdlhgiooaaaGreat.Le Go.Proofs.YtpikcdlhgiooaaaGreat
open Go.ChangeShapes Go.WideShapes Go.ChangeAt Go.RowKit
set_option linter.unusedVariables false
set_option maxRecDepth 100000
def wf89 (x : api_Pair) : Prop := (WI .i64) x.A ∧ (WI .i64) x.B ∧ True
theorem seg89 : SegRd Tryz.prog (Codec.pair ci64 (Codec.pair ci64 Codec.unit)) [(0, 3), (1, 3)] 0 2 (fun x => wf89 (⟨x.1, x.2.1⟩)) := (SegRd.pair (off := 0) (k := 1) (CodecRd.int (t := 3) (by kernel_rfl)) (by kernel_rfl) (SegRd.pair (off := 1) (k := 1) (CodecRd.int (t := 3) (by kernel_rfl)) (by kernel_rfl) (SegRd.unit rfl)))
theorem rd89 (t : Nat) {dd : TypeDesc} (ht : Tryz.prog.underlying t = some dd) (hs : (segsOf Tryz.prog dd = some [(0, 3), (1, 3)]) ∧ Tryz.prog.cellsOf t = 2) : CodecRd Tryz.prog cd89 t wf89 := (CodecRd.row ht hs.1 hs.2 seg89).iso (fun _ => rfl)
def wf116 (x : api_Loss) : Prop := (WI .i64) x.ID ∧ (WI .i64) x.To ∧ True
theorem seg116 : SegRd Tryz.prog (Codec.pair ci64 (Codec.pair ci64 Codec.unit)) [(0, 3), (1, 3)] 0 2 (fun x => wf116 (⟨x.1, x.2.1⟩)) := (SegRd.pair (off := 0) (k := 1) (CodecRd.int (t := 3) (by kernel_rfl)) (by kernel_rfl) (SegRd.pair (off := 1) (k := 1) (CodecRd.int (t := 3) (by kernel_rfl)) (by kernel_rfl) (SegRd.unit rfl)))
theorem rd116 (t : Nat) {dd : TypeDesc} (ht : Tryz.prog.underlying t = some dd) (hs : (segsOf Tryz.prog dd = some [(0, 3), (1, 3)]) ∧ Tryz.prog.cellsOf t = 2) : CodecRd Tryz.prog cd116 t wf116 := (CodecRd.row ht hs.1 hs.2 seg116).iso (fun _ => rfl)
def wf25 (x : wirelesslaw54_Plan) : Prop := (WL 1 WB) x.Relays ∧ (WL 1 WB) x.Friends ∧ (WL 16 wf89) x.Links ∧ (WL 16 wf116) x.Losses ∧ True
theorem seg25 : SegRd Tryz.prog (Codec.pair (Codec.list 4 1 (fun (a : Bool) => cbo.oneV a) : Codec Ty (List (Ty 4))) (Codec.pair (Codec.list 4 1 (fun (a : Bool) => cbo.oneV a) : Codec Ty (List (Ty 4))) (Codec.pair (Codec.list 90 2 (fun (a : api_Pair) => .agg (cd89.encV a)) : Codec Ty (List (Ty 90))) (Codec.pair (Codec.list 117 2 (fun (a : api_Loss) => .agg (cd116.encV a)) : Codec Ty (List (Ty 117))) Codec.unit)))) [(0, 22), (1, 22), (2, 23), (3, 24)] 0 4 (fun x => wf25 (⟨x.1, x.2.1, x.2.2.1, x.2.2.2.1⟩)) := (SegRd.pair (off := 0) (k := 1) (CodecRd.ones (t := 22) (e := 4) (by kernel_rfl) (by kernel_rfl) (by kernel_rfl) (by kernel_rfl) (CodecRd.bool (t := 4) (by kernel_rfl))) (by kernel_rfl) (SegRd.pair (off := 1) (k := 1) (CodecRd.ones (t := 22) (e := 4) (by kernel_rfl) (by kernel_rfl) (by kernel_rfl) (by kernel_rfl) (CodecRd.bool (t := 4) (by kernel_rfl))) (by kernel_rfl) (SegRd.pair (off := 2) (k := 1) (CodecRd.rows (t := 23) (e := 90) (by kernel_rfl) (by kernel_rfl) (by kernel_rfl) (by kernel_rfl) (rd89 90 Tryz.underlying90 ⟨by kernel_rfl, by kernel_rfl⟩)) (by kernel_rfl) (SegRd.pair (off := 3) (k := 1) (CodecRd.rows (t := 24) (e := 117) (by kernel_rfl) (by kernel_rfl) (by kernel_rfl) (by kernel_rfl) (rd116 117 Tryz.underlying117 ⟨by kernel_rfl, by kernel_rfl⟩)) (by kernel_rfl) (SegRd.unit rfl)))))
theorem rd25 (t : Nat) {dd : TypeDesc} (ht : Tryz.prog.underlying t = some dd) (hs : (segsOf Tryz.prog dd = some [(0, 22), (1, 22), (2, 23), (3, 24)]) ∧ Tryz.prog.cellsOf t = 4) : CodecRd Tryz.prog cd25 t wf25 := (CodecRd.row ht hs.1 hs.2 seg25).iso (fun _ => rfl)
def WfL (x : Args U M_law54_MeshNews.ts) : Prop := wf25 x.1 ∧ True
theorem true_law54_MeshNews (x : Args U M_law54_MeshNews.ts) (h : WfL x) : M_law54_MeshNews.fn x = some true := by
  have hs := h.1
  have hl : WL 16 _ x.1.Losses := hs.2.2.2.1
  exact law_MeshNews x.1 rfl (Nat.le_trans hl.1.2 (by decide)) (Nat.le_trans hl.1.1 (by decide))
theorem own : ownKnob Tryz.prog.godebug = none := by kernel_rfl
theorem laid : laidOutB Tryz.prog = true := by kernel_rfl
theorem handedZ {H : Type} {enc : TypeId × Value → H} {a : Assume} {C : Checked} {os : Os} {f : FuncId} {fn : Func} {s : ChangeSpec} {conds : List PathCond} {apart fresh handsOn again : Bool}
    (own : ownKnob C.prog.godebug = none) (started : os.Started) (noInit : C.prog.inits.idxOf? f = none) (hfn : C.prog.funcs[f]? = some fn)
    (witness : ∃ (w : World) (tape : Tape) (i : Input), w.os = os ∧ (w.forCall tape i).Shaped C.prog ∧ i.vars = [] ∧ Input.okWide C.prog (w.forCall tape i) .any w.heap.size f i ∧
      s.pre6 enc C.prog fn conds apart (w.forCall tape i).memory i.args ∧ a.holds C.prog (lone (Frame.enter C.prog f i.args .normal) [] (w.forCall tape i)))
    (contract : ∀ (W : World) (base : Nat) (args : Array Value) (ds gs : List (DataW H)) (before : List MemPlace),
      (∀ (j : Nat) t v, fn.params[j]? = some t → args[j]? = some v → Value.okWide C.prog W .any base t v) →
      DataW.Whole enc C.prog fn.params.toList s.vars apart W args.toList ds gs before →
      conds.all (PathCond.test C.prog ⟨fn.params.toList, ds, s.plain.varTypes C.prog, gs⟩) = true →
      (DataW.weightsEach C.prog (fn.params.toList ++ s.plain.varTypes C.prog) (ds ++ gs)).all (· ≤ reachBytes) = true →
      Calls C.prog f args W fun e W' => ∃ v, e = .returned v ∧ s.post enc C.prog fn apart fresh handsOn again W args v W') :
    ReturnsInHanded a C os f .any (s.pre6 enc C.prog fn conds apart) (s.post enc C.prog fn apart fresh handsOn again) := by
  refine returnsInHanded_of_calls own started noInit witness ?_
  intro w tape i _ _ _ hok hpre _
  obtain ⟨_, _, _, fn', hfn', _, _, _, _, hval⟩ := hok
  have e : fn' = fn := Option.some.inj (hfn'.symm.trans hfn)
  subst e
  obtain ⟨⟨ds, gs, before, hw, hc⟩, hz⟩ := hpre
  have hw' := DataW.Whole.of_heap (w' := w.forCall tape i) (by rfl) hw
  refine (contract (w.forCall tape i) w.heap.size i.args ds gs before hval hw' hc (hz.weights hw)).mono fun e W' ⟨v, he, hp⟩ => ?_
  subst he
  exact ChangeSpec.post_blind hp
theorem lifted (os : Os) (started : os.Started) (H : Type) (enc : TypeId × Value → H) :
    ReturnsInHanded {} Tryz.checked os 4 .any (Rows.meshNewsSpec.pre6 enc Tryz.prog Tryz.f4 Rows.meshNewsRow.domain false) (Rows.meshNewsSpec.post enc Tryz.prog Tryz.f4 false true false false) := by
  refine handedZ (C := Tryz.checked) own started (by kernel_rfl) Tryz.func4
    (ChangeSpec.witness6 (enc := enc) (C := Tryz.checked) false ⟨#[], #[.agg #[.slice none 0 0, .slice none 0 0, .slice none 0 0, .slice none 0 0]], []⟩ 8 (by kernel_rfl) (by kernel_rfl) (by kernel_rfl) (by kernel_rfl)) ?_
  intro W base args ds gs before hval hW _ hz
  have hgs : gs.length = 0 := by
    obtain ⟨p, q, hA, hV, _⟩ := hW
    cases gs with
    | nil => rfl
    | cons g gs => exact hV.elim
  have hds : ds.length = 1 := by
    obtain ⟨p, q, hA, hV, _⟩ := hW
    exact trodAll_len hA
  exact law_ok (E0 := B0) (m := M_law54_MeshNews) (fn := Tryz.f4) (tb := 4) (d := 12) ok_law54_MeshNews (AllRd.cons (TyRd.rows (U := U) (t := 26) (c := cd25) (wf := wf25) (by kernel_rfl) (rd25 26 Tryz.underlying26 ⟨by kernel_rfl, by kernel_rfl⟩) (fun _ => rfl)) AllRd.nil) rfl (by decide +kernel) laid (by decide +kernel) rfl (by kernel_rfl) (tt := true) rfl true_law54_MeshNews
    (fun ds gs h1 h2 => by
      match ds, gs, h1, h2 with
      | [d0], [], _, _ => exact ⟨rfl, rfl, rfl⟩)
    (fun j t v h1 h2 => ⟨_, _, hval j t v h1 h2⟩) hW (fun g r h => by cases h) (fun W' _ pv h _ sp _ => by cases gs with | nil => exact h | cons g gs => exact h.elim) hds hgs hz
theorem over : Rows.meshNewsRow.holds Tryz.pinned (OpenSpec.ofChange Rows.meshNewsSpec) :=
  OpenClaim.holds_of_wide 4 Tryz.f4 rfl rfl rfl rfl rfl rfl rfl ⟨rfl, rfl, rfl, rfl, rfl⟩ rfl rfl rfl rfl rfl (by as_aux_lemma => kernel_rfl) Tryz.func4 closed
    (of_decide_eq_true (by as_aux_lemma => kernel_rfl)) (by unfold Func.isWrapper; first | (rw [if_pos (by decide +kernel)]; kernel_rfl) | (rw [if_neg (by decide +kernel)]; exact ⟨rfl, rfl⟩))
    (fun os started H enc _ => lifted os started H enc)
theorem proved : Rows.MeshNewsSaid := over
#print axioms proved
end Go.Proofs.YtpikcdlhgiooaaaGreat.law4
