/-
  A message to all nodes is reported by exactly the nodes that relays reach. No conditions but the sizes that the form sets.
-/
import Derived.Test.YteinepnbndegdaaGreatRows
import Derived.Test.YteinepnbndegdaaGreatBMi
import Derived.OpenShut
import Derived.Test.YteinepnbndegdaaGreatMeshFloodsFc
set_option linter.unusedVariables false
set_option linter.unusedSimpArgs false
namespace Go.Proofs.YteinepnbndegdaaGreat.law3
open Go Go.Proofs.YteinepnbndegdaaGreat.Le Go.Proofs.YteinepnbndegdaaGreat
open Go.ChangeShapes Go.WideShapes Go.ChangeAt Go.RowKit
set_option maxRecDepth 100000
def wf78 (x : BR) : Prop := (WI .i64) x.A /\ (WI .i64) x.B /\ True
theorem seg78 : Hm Tryz.prog (AA.pair BM (AA.pair BM AA.unit)) [(0, 3), (1, 3)] 0 2 (fun x => wf78 (⟨x.1, x.2.1⟩)) := (Hm.pair (off := 0) (k := 1) (EH.int (t := 3) (by kernel_rfl)) (by kernel_rfl) (Hm.pair (off := 1) (k := 1) (EH.int (t := 3) (by kernel_rfl)) (by kernel_rfl) (Hm.unit rfl)))
theorem rd78 (t : Nat) {dd : TypeDesc} (ht : Tryz.prog.underlying t = some dd) (hs : (LJ Tryz.prog dd = some [(0, 3), (1, 3)]) /\ Tryz.prog.cellsOf t = 2) : EH Tryz.prog JI t wf78 := (EH.row ht hs.1 hs.2 seg78).Bg (fun _ => rfl)
def Z1c (x : DK) : Prop := (WI .i64) x.ID /\ (WI .i64) x.To /\ True
theorem ZtH : Hm Tryz.prog (AA.pair BM (AA.pair BM AA.unit)) [(0, 3), (1, 3)] 0 2 (fun x => Z1c (⟨x.1, x.2.1⟩)) := (Hm.pair (off := 0) (k := 1) (EH.int (t := 3) (by kernel_rfl)) (by kernel_rfl) (Hm.pair (off := 1) (k := 1) (EH.int (t := 3) (by kernel_rfl)) (by kernel_rfl) (Hm.unit rfl)))
theorem rd112 (t : Nat) {dd : TypeDesc} (ht : Tryz.prog.underlying t = some dd) (hs : (LJ Tryz.prog dd = some [(0, 3), (1, 3)]) /\ Tryz.prog.cellsOf t = 2) : EH Tryz.prog JG t Z1c := (EH.row ht hs.1 hs.2 ZtH).Bg (fun _ => rfl)
def nZ (x : F7) : Prop := (WL 1 WB) x.Dq /\ (WL 1 WB) x.Iz /\ (WL 16 wf78) x.BA /\ (WL 16 Z1c) x.BG /\ True
theorem seg25 : Hm Tryz.prog (AA.pair (AA.list 4 1 (fun (a : Bool) => D8.Am a) : AA Ty (List (Ty 4))) (AA.pair (AA.list 4 1 (fun (a : Bool) => D8.Am a) : AA Ty (List (Ty 4))) (AA.pair (AA.list 79 2 (fun (a : BR) => .agg (JI.Af a)) : AA Ty (List (Ty 79))) (AA.pair (AA.list 113 2 (fun (a : DK) => .agg (JG.Af a)) : AA Ty (List (Ty 113))) AA.unit)))) [(0, 22), (1, 22), (2, 23), (3, 24)] 0 4 (fun x => nZ (⟨x.1, x.2.1, x.2.2.1, x.2.2.2.1⟩)) := (Hm.pair (off := 0) (k := 1) (EH.ones (t := 22) (e := 4) (by kernel_rfl) (by kernel_rfl) (by kernel_rfl) (by kernel_rfl) (EH.bool (t := 4) (by kernel_rfl))) (by kernel_rfl) (Hm.pair (off := 1) (k := 1) (EH.ones (t := 22) (e := 4) (by kernel_rfl) (by kernel_rfl) (by kernel_rfl) (by kernel_rfl) (EH.bool (t := 4) (by kernel_rfl))) (by kernel_rfl) (Hm.pair (off := 2) (k := 1) (EH.rows (t := 23) (e := 79) (by kernel_rfl) (by kernel_rfl) (by kernel_rfl) (by kernel_rfl) (rd78 79 Tryz.underlying79 ⟨by kernel_rfl, by kernel_rfl⟩)) (by kernel_rfl) (Hm.pair (off := 3) (k := 1) (EH.rows (t := 24) (e := 113) (by kernel_rfl) (by kernel_rfl) (by kernel_rfl) (by kernel_rfl) (rd112 113 Tryz.underlying113 ⟨by kernel_rfl, by kernel_rfl⟩)) (by kernel_rfl) (Hm.unit rfl)))))
theorem rd25 (t : Nat) {dd : TypeDesc} (ht : Tryz.prog.underlying t = some dd) (hs : (LJ Tryz.prog dd = some [(0, 22), (1, 22), (2, 23), (3, 24)]) /\ Tryz.prog.cellsOf t = 4) : EH Tryz.prog Vu t nZ := (EH.row ht hs.1 hs.2 seg25).Bg (fun _ => rfl)
def WfL (x : FZ U WX.ts) : Prop := nZ x.1 /\ (WI .i64) x.2.1 /\ (WL 1 (WI .u8)) x.2.2.1 /\ True
theorem wi8 {a : Int} (h : WI .u8 a) : 0 <= a /\ a < 256 := by
  simp only [WI, Lit.wf, Bool.and_eq_true, decide_eq_true_eq] at h
  have h1 : (IntKind.u8.min) = 0 := rfl
  have h2 : (IntKind.u8.max) = 255 := rfl
  rw [h1, h2] at h
  omega
theorem ZdN (x : FZ U WX.ts) (h : WfL x) : WX.fn x = some true := by
  have hs := h.1
  have hl : WL 16 _ x.1.BA := hs.2.2.1
  exact Zh8 x.1 x.2.1 x.2.2.1 (fun y hy => wi8 (h.2.2.1.2 y hy)) rfl (Nat.le_trans hl.1.2 (by decide)) (Nat.le_trans hl.1.1 (by decide))
theorem own : ownKnob Tryz.prog.godebug = none := by kernel_rfl
theorem laid : laidOutB Tryz.prog = true := by kernel_rfl
theorem Zqa {H : Type} {enc : TypeId × Value -> H} {a : Assume} {C : Checked} {os : Os} {f : FuncId} {fn : Func} {s : ChangeSpec} {conds : List PathCond} {apart fresh handsOn again : Bool}
    (own : ownKnob C.prog.godebug = none) (started : os.Started) (noInit : C.prog.inits.idxOf? f = none) (hfn : C.prog.funcs[f]? = some fn)
    (witness : ∃ (w : World) (tape : Tape) (i : Input), w.os = os /\ (w.forCall tape i).Shaped C.prog /\ i.vars = [] /\ Input.okWide C.prog (w.forCall tape i) .any w.heap.size f i /\
      s.pre6 enc C.prog fn conds apart (w.forCall tape i).memory i.args /\ a.holds C.prog (lone (Frame.enter C.prog f i.args .normal) [] (w.forCall tape i)))
    (contract : ∀ (W : World) (base : Nat) (args : Array Value) (ds gs : List (DataW H)) (before : List MemPlace),
      (∀ (j : Nat) t v, fn.params[j]? = some t -> args[j]? = some v -> Value.okWide C.prog W .any base t v) ->
      DataW.Whole enc C.prog fn.params.toList s.vars apart W args.toList ds gs before ->
      conds.all (PathCond.test C.prog ⟨fn.params.toList, ds, s.plain.varTypes C.prog, gs⟩) = true ->
      (DataW.weightsEach C.prog (fn.params.toList ++ s.plain.varTypes C.prog) (ds ++ gs)).all (· <= reachBytes) = true ->
      Calls C.prog f args W fun e W' => ∃ v, e = .returned v /\ s.post enc C.prog fn apart fresh handsOn again W args v W') :
    ReturnsInHanded a C os f .any (s.pre6 enc C.prog fn conds apart) (s.post enc C.prog fn apart fresh handsOn again) := by
  refine returnsInHanded_of_calls own started noInit witness ?_
  intro w tape i _ _ _ hok hpre _
  obtain ⟨_, _, _, fn', hfn', _, _, _, _, hval⟩ := hok
  have e : fn' = fn := Option.some.inj (hfn'.symm.trans hfn)
  subst e
  obtain ⟨⟨ds, gs, before, hw, hc⟩, hz⟩ := hpre
  have hw' := DataW.Whole.of_heap (w' := w.forCall tape i) (by rfl) hw
  refine (contract (w.forCall tape i) w.heap.size i.args ds gs before hval hw' hc (hz.weights hw)).mono fun e W' ⟨v, he, hp⟩ => ?_
  subst he
  exact ChangeSpec.post_blind hp
theorem lifted (os : Os) (started : os.Started) (H : Type) (enc : TypeId × Value -> H) :
    ReturnsInHanded {} Tryz.checked os 3 .any (Rows.meshFloodsSpec.pre6 enc Tryz.prog Tryz.f3 Rows.meshFloodsRow.domain false) (Rows.meshFloodsSpec.post enc Tryz.prog Tryz.f3 false true false false) := by
  refine Zqa (C := Tryz.checked) own started (by kernel_rfl) Tryz.func3
    (ChangeSpec.witness6 (enc := enc) (C := Tryz.checked) false ⟨#[], #[.agg #[.slice none 0 0, .slice none 0 0, .slice none 0 0, .slice none 0 0], .int .i64 0, .slice none 0 0], []⟩ 8 (by kernel_rfl) (by kernel_rfl) (by kernel_rfl) (by kernel_rfl)) ?_
  intro W base args ds gs before hval hW _ hz
  have hgs : gs.length = 0 := by
    obtain ⟨p, q, hA, hV, _⟩ := hW
    cases gs with
    | nil => rfl
    | cons g gs => exact hV.elim
  have hds : ds.length = 3 := by
    obtain ⟨p, q, hA, hV, _⟩ := hW
    exact Z6B hA
  exact ZsN (E0 := B0) (m := WX) (fn := Tryz.f3) (tb := 4) (d := 12) Zef (PZ.cons (Qq.rows (U := U) (t := 26) (c := Vu) (wf := nZ) (by kernel_rfl) (rd25 26 Tryz.underlying26 ⟨by kernel_rfl, by kernel_rfl⟩) (fun _ => rfl)) (PZ.cons (Qq.ones (U := U) (t := 3) (c := BM) (wf := (WI .i64)) (by kernel_rfl) (EH.int (t := 3) (by kernel_rfl)) (fun _ => rfl)) (PZ.cons (Qq.ones (U := U) (t := 27) (c := (AA.list 5 1 (fun (a : Int) => BZ.Am a) : AA Ty (List (Ty 5)))) (wf := (WL 1 (WI .u8))) (by kernel_rfl) (EH.ones (t := 27) (e := 5) (by kernel_rfl) (by kernel_rfl) (by kernel_rfl) (by kernel_rfl) (EH.int (t := 5) (by kernel_rfl))) (fun _ => rfl)) PZ.nil))) rfl (by decide +kernel) laid (by decide +kernel) rfl (by kernel_rfl) (tt := true) rfl ZdN
    (fun ds gs h1 h2 => by
      match ds, gs, h1, h2 with
      | [d0, d1, d2], [], _, _ => exact ⟨rfl, rfl, rfl⟩)
    (fun j t v h1 h2 => ⟨_, _, hval j t v h1 h2⟩) hW (fun g r h => by cases h) (fun W' _ pv h _ sp _ => by cases gs with | nil => exact h | cons g gs => exact h.elim) hds hgs hz
theorem over : Rows.meshFloodsRow.holds Tryz.pinned (OpenSpec.ofChange Rows.meshFloodsSpec) :=
  OpenClaim.holds_of_wide 3 Tryz.f3 rfl rfl rfl rfl rfl rfl rfl ⟨rfl, rfl, rfl, rfl, rfl⟩ rfl rfl rfl rfl rfl (by as_aux_lemma => kernel_rfl) Tryz.func3 closed
    (of_decide_eq_true (by as_aux_lemma => kernel_rfl)) (by unfold Func.isWrapper; first | (rw [if_pos (by decide +kernel)]; kernel_rfl) | (rw [if_neg (by decide +kernel)]; exact ⟨rfl, rfl⟩))
    (fun os started H enc _ => lifted os started H enc)
theorem proved : Rows.MeshFloodsSaid := over
#print axioms proved
end Go.Proofs.YteinepnbndegdaaGreat.law3
