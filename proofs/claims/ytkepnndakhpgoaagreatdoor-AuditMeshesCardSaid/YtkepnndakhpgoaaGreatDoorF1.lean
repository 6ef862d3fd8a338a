/-
  strings.Join, by the shelf's contract.
-/
import Derived.Test.YtkepnndakhpgoaaGreatDoorXUn
import Derived.Test.YtkepnndakhpgoaaGreatDoorShelf
import Derived.Shelf.Strings.OnBuilder
import Derived.Test.YtkepnndakhpgoaaGreatDoorMf
namespace Go.Proofs.YtkepnndakhpgoaaGreatDoor
open Go Go.Proofs.YtkepnndakhpgoaaGreatDoor.Le
open Go.RowKit (Below)
set_option linter.unusedVariables false
theorem reps_strs {σ : Sg} {w : World} : ∀ (xs : List ByteArray) (us : List Value), Reps σ w (xs.map fun s => V.lit (.string s)) us → us = xs.map fun s => Value.string s
  | [], us, h => h.nil_left
  | x :: xs, us, h => by
    obtain ⟨u, us', rfl, h1, h2⟩ := h.cons_left
    have := reps_strs xs us' h2
    subst this
    cases h1 with
    | lit _ _ => rfl
def joinB (xs : List ByteArray) (sep : ByteArray) : ByteArray := ⟨(Lib.join (xs.map (·.data.toList)) sep.data.toList).toArray⟩
noncomputable def m19 (a0 : List ByteArray) (a1 : ByteArray) : Option ByteArray :=
  if a0.length ≤ 140737488355328 ∧ (Lib.join (a0.map (·.data.toList)) a1.data.toList).length ≤ 140737488355328 then some (joinB a0 a1) else none
noncomputable def M19 : Mod U := { ts := [102, 9], rt := 9, fn := fun x => m19 x.1 x.2.1, ok := by decide }
theorem join_calls (fz : Nat → Nat → Prop) (w : World) (xs : List ByteArray) (sep : ByteArray) (v0 : Value) (hcells : ∀ b c, fz b c → ∃ u, w.cell? ⟨b, c, none⟩ = some u)
    (h1 : Reps (bare fz) w [.sl false 1 (xs.map fun s => V.lit (.string s))] [v0]) (hN : xs.length ≤ 140737488355328) (hlen : (Lib.join (xs.map (·.data.toList)) sep.data.toList).length ≤ 140737488355328) :
    Calls Tryz.prog 19 #[v0, .string sep] w fun e w' => e = .returned (.string (joinB xs sep)) ∧ Below w.heap.size w w' := by
  generalize hes : (xs.map fun s => V.lit (.string s)) = es at h1
  have none : ∀ (a : Option Addr) (c : Nat), xs = [] → Calls Tryz.prog 19 #[.slice a 0 c, .string sep] w fun e w' => e = .returned (.string (joinB xs sep)) ∧ Below w.heap.size w w' := fun a c hx => by
    subst hx
    exact (Any.strings_Join_none Tryz.lays156 Tryz.Builder_Extra_156 a c sep w).mono fun e w' ⟨he, hw⟩ => ⟨he, hw ▸ Below.refl _ _⟩
  cases h1 with
  | slnil h => exact none _ _ (by simpa using hes)
  | slemp a h => exact none _ _ (by simpa using hes)
  | @sl _ us _ _ b o c _ hr hf hsz hone hle hcap hlies h =>
    subst hes
    have hu := reps_strs xs us hr
    subst hu
    have hfl : flat (xs.map fun s => Value.string s) = xs.map fun s => Value.string s := by
      clear hr hf hsz hone hlies hle hN hlen none
      induction xs with
      | nil => rfl
      | cons x xs ih => simp only [flat, List.map_cons, List.flatMap_cons] at ih ⊢; rw [ih]; rfl
    have hc : ∀ (j : Nat) x, xs[j]? = some x → w.cell? ⟨b, o + j, .none⟩ = some (.string x) := fun j x hj => (hlies j (.string x) (by rw [hfl, List.getElem?_map, hj]; rfl)).2
    rw [List.length_map]
    rcases xs with _ | ⟨x, r⟩
    · exact none _ _ rfl
    · have hb : b < w.heap.size := by
        have := hc 0 x rfl
        exact cell_lt this
      exact Any.strings_Join Tryz.lays156 Tryz.Builder_Extra_156 b o c (x :: r) sep w hc hb hN (by simpa using hle) hlen
def strsOf : List V → Option (List ByteArray)
  | [] => some []
  | .lit (.string s) :: xs => (strsOf xs).map (s :: ·)
  | _ => none
theorem strsOf_eq : ∀ {xs : List V} {ss : List ByteArray}, strsOf xs = some ss → xs = ss.map fun s => V.lit (.string s)
  | [], ss, h => by simp only [strsOf, Option.some.injEq] at h; subst h; rfl
  | x :: xs, ss, h => by
    unfold strsOf at h
    split at h
    · rename_i heq; cases heq
    · rename_i s xs' heq
      cases heq
      cases hs : strsOf xs with
      | none => simp [hs] at h
      | some r =>
        simp only [hs, Option.map_some, Option.some.injEq] at h
        subst h
        rw [strsOf_eq hs]
        rfl
    · cases h
def joinF : List V → Option V
  | [.sl false e xs, .lit (.string sep)] => if e = 1 then (match strsOf xs with
    | some ss => if ss.length ≤ 140737488355328 ∧ (Lib.join (ss.map (·.data.toList)) sep.data.toList).length ≤ 140737488355328 then some (.lit (.string (joinB ss sep))) else none
    | none => none) else none
  | _ => none
theorem join_pure (E : Env) (ss : List ByteArray) (sep : ByteArray) (hN : ss.length ≤ 140737488355328) (hlen : (Lib.join (ss.map (·.data.toList)) sep.data.toList).length ≤ 140737488355328) :
    PureFn Tryz.prog E 19 [.sl false 1 (ss.map fun s => V.lit (.string s)), .lit (.string sep)] (.lit (.string (joinB ss sep))) := by
  intro fz w vs hcells hg hr
  obtain ⟨v0, vs, rfl, h1, hr⟩ := hr.cons_left
  obtain ⟨v1, vs, rfl, h2, hr⟩ := hr.cons_left
  cases hr.nil_left
  cases h2 with
  | lit _ _ =>
    refine (join_calls fz w ss sep v0 hcells h1 hN hlen).mono ?_
    rintro e w' ⟨rfl, hb⟩
    refine ⟨_, fz, rfl, hb, fun _ _ h => h, fun _ _ h _ => h, fun b c h => ?_, .lit ?_ .nil, rfl⟩
    · obtain ⟨u, hu⟩ := hcells b c h
      exact ⟨u, (hb.cell (p := ⟨b, c, none⟩) (cell_lt hu)).trans hu⟩
    · have h1 : (joinB ss sep).size ≤ maxLen := Nat.le_trans (show (joinB ss sep).size ≤ 140737488355328 by simpa [joinB, ByteArray.size] using hlen) (by decide)
      simpa [leaf] using h1
theorem join_entered : Entered Tryz.prog 19 := ⟨Tryz.f19, Tryz.func19, by kernel_rfl, by kernel_rfl⟩
theorem join_given : GivenOK Tryz.prog gl 19 joinF := by
  refine ⟨join_entered, fun E xs r _ h => ?_⟩
  unfold joinF at h
  split at h
  · split at h
    · rename_i he
      subst he
      split at h
      · rename_i ss hs
        split at h
        · rename_i hl
          cases h
          rw [strsOf_eq hs]
          exact join_pure E ss _ hl.1 hl.2
        · cases h
      · cases h
    · cases h
  · cases h
theorem ok19 : FnOK Tryz.prog B0 19 M19 := by
  refine ⟨join_entered, ?_⟩
  rintro ⟨xs, sep, _⟩ a ha
  have ha' : m19 xs sep = some a := ha
  unfold m19 at ha'
  split at ha'
  · rename_i hl
    cases ha'
    exact join_pure B0 xs sep hl.1 hl.2
  · cases ha'
end Go.Proofs.YtkepnndakhpgoaaGreatDoor

/-
  Functions of the program as functions of Lean (printed by a program of mine).
-/
namespace Go.Proofs.YtkepnndakhpgoaaGreatDoor
open Go Go.Proofs.YtkepnndakhpgoaaGreatDoor.Le
set_option linter.unusedVariables false
set_option maxRecDepth 100000
/-! slices.Clone[[]byte,byte] -/
theorem clone_slices_Clone_byte : CloneOK Tryz.prog 65 1 1 5 := clone_ok mix_ok (t := 65) (tb := 4) (e := 5) Tryz.func65 (by kernel_rfl) (by kernel_rfl) (by kernel_rfl) (by kernel_rfl) (by kernel_rfl) (by kernel_rfl) (by kernel_rfl) (by decide)
noncomputable def m_slices_Clone_byte (a0 : List Int) : Option Y_slices_Clone_byte := if a0.length * 1 ≤ lim ∧ a0.length ≤ maxLen then some ⟨a0⟩ else none
def sin_slices_Clone_byte : Shape := ⟨[.one (.v 65 1 false)], []⟩
def sout_slices_Clone_byte : Shape := ⟨[.one (.own 5 0)], [.row 5 true]⟩
noncomputable def H_slices_Clone_byte : HMod U := { fa := [[.s 5 1]], fb := [], sin := sin_slices_Clone_byte, sout := sout_slices_Clone_byte, one := true, ky := 1402, toX := fun (y : Y_slices_Clone_byte) => (((), ()), (y.q0, ())), fn := fun x => m_slices_Clone_byte x.1.1.1, ok := ⟨⟨⟨by decide, fun _ => rfl⟩, trivial⟩, trivial⟩ }
theorem ok_slices_Clone_byte : HFnOK Tryz.prog B0 65 H_slices_Clone_byte := clone_hfn clone_slices_Clone_byte fun x y hx => by
  simp only [H_slices_Clone_byte, m_slices_Clone_byte] at hx
  split at hx
  · rename_i h
    cases hx
    exact ⟨_, rfl, rfl, by simp [H_slices_Clone_byte, HMod.out, sout_slices_Clone_byte, Shape.enc, lensB, encA, encSp, encP, encB, toV], by simp [H_slices_Clone_byte, HMod.out, sout_slices_Clone_byte, Shape.enc, lensB, encA, encSp, encP, encB, toH, toBox, newBox], by simpa using h.1, by simpa using h.2⟩
  · cases hx

end Go.Proofs.YtkepnndakhpgoaaGreatDoor

/-
  Functions of the program as functions of Lean (printed by a program of mine).
-/
namespace Go.Proofs.YtkepnndakhpgoaaGreatDoor
open Go Go.Proofs.YtkepnndakhpgoaaGreatDoor.Le
set_option linter.unusedVariables false
set_option maxRecDepth 100000
/-! wireless/wirelesslaw58.lives -/
def ex_law58_lives : FuncId → Option (List V → Option V)
  | 19 => some joinF
  | _ => none
theorem exok_law58_lives : ∀ g F, ex_law58_lives g = some F → GivenOK Tryz.prog gl g F := fun g F h => by
  unfold ex_law58_lives at h
  split at h <;> cases h
  · exact join_given
noncomputable def m_law58_lives : Option Bool := some true
noncomputable def M_law58_lives : Mod U := { ts := [], rt := 4, fn := fun _ => m_law58_lives, ok := by decide }
theorem ck_law58_lives : exCheck Tryz.prog gl [4, 6, 8, 9, 10, 12, 13, 14, 15, 16, 17, 18, 20, 25, 26, 28, 41] (fun g => !([12, 13, 20, 25, 41].contains g)) [] [] ex_law58_lives = true := by kernel_rfl
theorem ok_law58_lives : FnOK Tryz.prog B0 4 M_law58_lives := closedX_ok rfl mix_ok ck_law58_lives exok_law58_lives (fun p hp => by cases hp) (by rfl) (by decide) rfl Tryz.func4 (by kernel_rfl) (n := 60) (m := M_law58_lives) rfl (a := true) (fun _ => rfl) (by kernel_rfl)

end Go.Proofs.YtkepnndakhpgoaaGreatDoor

/-
  Functions of the program as functions of Lean (printed by a program of mine).
-/
namespace Go.Proofs.YtkepnndakhpgoaaGreatDoor
open Go Go.Proofs.YtkepnndakhpgoaaGreatDoor.Le
set_option linter.unusedVariables false
set_option maxRecDepth 100000
/-! wireless/wirelessref58.Same -/
inductive P_r58_Same where
  | b0 (a0 a1 : List api_Fault)
  | b1 (a0 a1 : List api_Fault) (a2 : Int)
noncomputable def T_r58_Same : P_r58_Same → Tr U (Bool ⊕ P_r58_Same)
  | .b0 a0 a1 => .br ((↑a0.length : Int) != (↑a1.length : Int)) (
    .leaf (.inl false)) (
    .leaf (.inr (.b1 a0 a1 (0 : Int))))
  | .b1 a0 a1 a2 => .br (decide (a2 < (↑a0.length : Int))) (
    .chk (decide (0 ≤ a2 ∧ a2 < (↑a0.length : Int))) (
      .bind 70 (a0[(Int.toNat a2)]?) (fun (x1 : api_Fault) => 
        .chk (decide (0 ≤ a2 ∧ a2 < (↑a1.length : Int))) (
          .bind 70 (a1[(Int.toNat a2)]?) (fun (x2 : api_Fault) => 
            .br (!((x1.Kind == x2.Kind) && ((x1.Device == x2.Device) && ((x1.Conn == x2.Conn) && true)))) (
              .leaf (.inl false)) (
              .leaf (.inr (.b1 a0 a1 (w64 (a2 + (1 : Int))))))))))) (
    .leaf (.inl true))
noncomputable def m_r58_Same (a0 a1 : List api_Fault) : Option Bool := flow T_r58_Same (.b0 a0 a1)
noncomputable def M_r58_Same : Mod U := ⟨[31, 31], 4, fun x => m_r58_Same x.1 x.2.1, by decide⟩
def L_r58_Same_1 : Lay := ⟨[0, 1, 5], [[.s 70 3], [.s 70 3], [.keep]], [], ⟨[.one (.v 31 1 false), .one (.v 31 1 false), .one (.v 3 1 false)], []⟩⟩
def A_r58_Same : Nat → Option Lay
  | 4 => some L_r58_Same_1
  | _ => none
noncomputable def sp_r58_Same : P_r58_Same → Spot U
  | .b0 a0 a1 => entP Tryz.f5 [31, 31] (a0, a1, ())
  | .b1 a0 a1 a2 => spL Tryz.f5 [1, 1, 0, 1, 0, 0, 0, 0] L_r58_Same_1 (((a0, ()), ((a1, ()), ((a2, ()), ()))), ())
theorem blk_r58_Same : BlkP 5 Tryz.f5 msN hsN A_r58_Same 4 T_r58_Same sp_r58_Same
  | .b0 _ _ => by kernel_rfl
  | .b1 _ _ _ => by kernel_rfl
theorem ok_r58_Same : FnOK Tryz.prog B0 5 M_r58_Same := okP blk_r58_Same (fun x => .b0 x.1 x.2.1) (by kernel_rfl) Tryz.func5 (by kernel_rfl) (by kernel_rfl) (fun _ => rfl) (fun _ => rfl)

end Go.Proofs.YtkepnndakhpgoaaGreatDoor

/-
  audit.Mesh: its contract, out of the walk.
-/
namespace Go.Proofs.YtkepnndakhpgoaaGreatDoor
open Go Go.Proofs.YtkepnndakhpgoaaGreatDoor.Le Go.RowKit
set_option linter.unusedVariables false
set_option maxRecDepth 100000

def noteM (x : api_MeshNote) : MN := ⟨x.Node, x.Event.Kind, x.Event.Access.Seq.Src, x.Event.Access.Seq.IV, x.Event.Access.Seq.Seq⟩
noncomputable def m_audit_Mesh (a0 : api_Mesh) : Option (List api_Fault) :=
  if a0.Nodes.length ≤ 1000 ∧ a0.Notes.length ≤ 1000 then some ((mlist (a0.Notes.map noteM) a0.Nodes.length).map fun (i : Nat) => ⟨7, (i : Int), 0⟩) else none
noncomputable def M_audit_Mesh : Mod U := ⟨[29], 31, fun x => m_audit_Mesh x.1, by decide⟩

theorem note_one {σ : Sg} {w : World} {x : api_MeshNote} {u : Value} (h : Reps σ w [.agg (cd87.encV x)] [u]) : ∃ y, u = .agg ((noteM x).cells y).toArray ∧ (∀ c ∈ (noteM x).cells y, c.oneCell' = true) ∧
    (Lit.int .u16 (noteM x).S).wf = true ∧ (Lit.int .u32 (noteM x).V).wf = true ∧ (Lit.int .u32 (noteM x).Q).wf = true ∧ (Lit.int .i64 (noteM x).Node).wf = true := by
  cases h with
  | @agg cs ws xs vs hcs hone _ =>
    obtain ⟨v0, r, rfl, h0, hr⟩ := hcs.cons_left
    obtain ⟨v1, r, rfl, h1, hr⟩ := hr.cons_left
    obtain ⟨v2, r, rfl, h2, hr⟩ := hr.cons_left
    obtain ⟨v3, r, rfl, h3, hr⟩ := hr.cons_left
    obtain ⟨v4, r, rfl, h4, hr⟩ := hr.cons_left
    obtain ⟨v5, r, rfl, h5, hr⟩ := hr.cons_left
    obtain ⟨v6, r, rfl, h6, hr⟩ := hr.cons_left
    obtain ⟨v7, r, rfl, h7, hr⟩ := hr.cons_left
    obtain ⟨v8, r, rfl, h8, hr⟩ := hr.cons_left
    obtain ⟨v9, r, rfl, h9, hr⟩ := hr.cons_left
    obtain ⟨v10, r, rfl, h10, hr⟩ := hr.cons_left
    obtain ⟨v11, r, rfl, h11, hr⟩ := hr.cons_left
    obtain ⟨v12, r, rfl, h12, hr⟩ := hr.cons_left
    cases hr.nil_left
    cases h0 with
    | lit l0 _ =>
    cases h2 with
    | lit l2 _ =>
    cases h7 with
    | lit l7 _ =>
    cases h8 with
    | lit l8 _ =>
    cases h9 with
    | lit l9 _ =>
    refine ⟨fun i => match i with | 1 => v1 | 3 => v3 | 4 => v4 | 5 => v5 | 6 => v6 | 10 => v10 | 11 => v11 | _ => v12, rfl, hone, l7, l8, l9, l0⟩

theorem slice_of {σ : Sg} {w : World} {e : Nat} {es : List V} {v : Value} (h : Reps σ w [.sl false e es] [v]) : ∃ a c, v = .slice a es.length c := by
  cases h with
  | slnil _ => exact ⟨_, _, rfl⟩
  | slemp a _ => exact ⟨_, _, rfl⟩
  | sl b o c e h0 h1 h2 h3 h4 h5 h6 _ => exact ⟨_, _, rfl⟩

theorem slice_map {σ : Sg} {w : World} {e : Nat} {α : Type} {xs : List α} {f : α → V} {v : Value} (h : Reps σ w [.sl false e (xs.map f)] [v]) : ∃ a c, v = .slice a xs.length c := by
  obtain ⟨a, c, hv⟩ := slice_of h
  exact ⟨a, c, by rw [hv, List.length_map]⟩
theorem cells_again (x : MN) (y : Nat → Value) : x.cells (fun i => (x.cells y)[i]?.getD undef) = x.cells y := rfl

theorem note_row {σ : Sg} {w : World} {xs : List api_MeshNote} {v : Value} (h : Reps σ w [.sl false 13 (xs.map fun a => .agg (cd87.encV a))] [v]) :
    ∃ a b o c y, v = .slice a (xs.map noteM).length c ∧ NotesAt w a c (xs.map noteM) b o y := by
  have none : ∀ (a : Option Addr), xs = [] → ∃ a' b o c y, Value.slice a 0 0 = .slice a' (xs.map noteM).length c ∧ NotesAt w a' c (xs.map noteM) b o y := fun a he => by
    subst he
    exact ⟨a, 0, 0, 0, fun _ _ => undef, rfl, ⟨fun h => absurd rfl h, fun j hj => (by cases hj), fun j hj => (by cases hj), Nat.le_refl _, Nat.zero_le _, by simp⟩⟩
  generalize hes : (xs.map fun a => V.agg (cd87.encV a)) = es at h
  cases h with
  | slnil _ => exact none _ (by simpa using hes)
  | slemp a _ => exact none _ (by simpa using hes)
  | @sl _ us _ _ b o c e h0 h1 h2 h3 h4 h5 h6 _ =>
    subst hes
    have hlen : us.length = xs.length := by rw [← h0.length, List.length_map]
    have key : ∀ j (hj : j < xs.length), ∃ u, us[j]? = some u ∧ ∃ y, u = .agg ((noteM xs[j]).cells y).toArray ∧ (∀ c ∈ (noteM xs[j]).cells y, c.oneCell' = true) ∧
        (Lit.int .u16 (noteM xs[j]).S).wf = true ∧ (Lit.int .u32 (noteM xs[j]).V).wf = true ∧ (Lit.int .u32 (noteM xs[j]).Q).wf = true ∧ (Lit.int .i64 (noteM xs[j]).Node).wf = true := fun j hj => by
      obtain ⟨u, hu, hr⟩ := h0.get (i := j) (x := .agg (cd87.encV xs[j])) (by rw [List.getElem?_map, List.getElem?_eq_getElem hj]; rfl)
      exact ⟨u, hu, note_one hr⟩
    have cl : ∀ j (hj : j < xs.length) u y, us[j]? = some u → u = Value.agg ((noteM xs[j]).cells y).toArray → (noteM xs[j]).cells (fun i => ((us[j]?.getD undef).cells.toList)[i]?.getD undef) = (noteM xs[j]).cells y := fun j hj u y hu he => by
      rw [hu, he]
      exact cells_again _ _
    refine ⟨_, b, o, c, fun j i => ((us[j]?.getD undef).cells.toList)[i]?.getD undef, by rw [List.length_map, List.length_map], ⟨fun _ => rfl, fun j hj => ?_, fun j hj => ?_, by simpa using h4, h5, fun x hx => ?_⟩⟩
    · have hj' : j < xs.length := by simpa using hj
      obtain ⟨u, hu, y, he, _⟩ := key j hj'
      rw [List.getElem_map, cl j hj' u y hu he]
      intro i v hv
      have hi : i < 13 := (List.getElem?_eq_some_iff.1 hv).1
      have := flat_at h2 hu i hi
      rw [he] at this
      have h7 := (h6 (j * 13 + i) v (by rw [this]; exact hv)).2
      rw [← Nat.add_assoc] at h7
      exact h7
    · have hj' : j < xs.length := by simpa using hj
      obtain ⟨u, hu, y, he, ho, _⟩ := key j hj'
      rw [List.getElem_map, cl j hj' u y hu he]
      exact ho
    · obtain ⟨a, ha, rfl⟩ := List.mem_map.1 hx
      obtain ⟨j, hj, rfl⟩ := List.getElem_of_mem ha
      obtain ⟨u, hu, y, he, ho, hw⟩ := key j hj
      exact hw

theorem faults_reps {fz : Nat → Nat → Prop} {w' : World} {n : Nat} {v : Value} {l : List Nat} (hl : ∀ i ∈ l, i ≤ 1000) (ho : w'.ownsRow n 70 3 v l.length (mcells l)) (hc : ∀ b c, fz b c → ∃ u, w'.cell? ⟨b, c, none⟩ = some u) :
    ∃ fz' : Nat → Nat → Prop, (∀ b c, fz b c → fz' b c) ∧ (∀ b c, fz' b c → b < n → fz b c) ∧ (∀ b c, fz' b c → ∃ u, w'.cell? ⟨b, c, none⟩ = some u) ∧
      Reps (bare fz') w' [.sl false 3 (l.map fun (i : Nat) => .agg [.lit (.int .i64 7), .lit (.int .i64 (i : Int)), .lit (.int .i64 0)])] [v] := by
  have hcells := fun g hg => ho.cells (g := g) hg
  have hlt := ho.lt
  rcases ho.2 with ⟨rfl, hn⟩ | ⟨g, cap, cur, rfl, hb, hg, hle, hcap, hsz, htake⟩
  · have : l = [] := List.length_eq_zero_iff.1 hn
    subst this
    exact ⟨fz, fun _ _ h => h, fun _ _ h _ => h, hc, .slnil .nil⟩
  · have hlen : (mcells l).length = l.length * 3 := ho.1
    have hus : flat (l.map fun (i : Nat) => Value.agg #[.int .i64 7, .int .i64 (i : Int), .int .i64 0]) = mcells l := by
      unfold flat mcells
      rw [List.flatMap_map]
      rfl
    have h1 : ∀ j u, (mcells l)[j]? = some u → w'.cell? ⟨g, j, none⟩ = some u := fun j u hu => by
      have := hcells g rfl j u hu
      rwa [Addr.add_mid, Nat.zero_add] at this
    refine ⟨fun b c => fz b c ∨ (b = g ∧ c < l.length * 3), fun _ _ h => .inl h, fun b c h hbn => ?_, fun b c h => ?_, ?_⟩
    · rcases h with h | ⟨rfl, _⟩
      · exact h
      · omega
    · rcases h with h | ⟨rfl, h⟩
      · exact hc b c h
      · exact ⟨_, h1 c _ (List.getElem?_eq_getElem (by omega))⟩
    · have hR : ∀ (m : List Nat), (∀ i ∈ m, i ≤ 1000) → Reps (bare fun b c => fz b c ∨ (b = g ∧ c < l.length * 3)) w' (m.map fun (i : Nat) => .agg [.lit (.int .i64 7), .lit (.int .i64 (i : Int)), .lit (.int .i64 0)]) (m.map fun (i : Nat) => Value.agg #[.int .i64 7, .int .i64 (i : Int), .int .i64 0]) := by
        intro m
        induction m with
        | nil => intro _; exact .nil
        | cons i m ih =>
          intro hm
          have hi := hm i List.mem_cons_self
          have wf : leaf (.int .i64 (i : Int)) = true := by
            simp [leaf, Lit.wf, IntKind.min, IntKind.max, IntKind.signed, IntKind.bits]
            omega
          exact .agg (.lit (by decide) (.lit wf (.lit (by decide) .nil))) (fun u hu => by simp at hu; rcases hu with rfl | rfl | rfl <;> rfl) (ih fun j hj => hm j (List.mem_cons_of_mem _ hj))
      have := @Reps.sl (bare fun b c => fz b c ∨ (b = g ∧ c < l.length * 3)) w' _ _ [] [] g 0 cap 3 (hR l hl) (fun x hx => by obtain ⟨i, _, rfl⟩ := List.mem_map.1 hx; rfl) (fun u hu => by obtain ⟨i, _, rfl⟩ := List.mem_map.1 hu; rfl)
        (fun u hu => by rw [hus] at hu; obtain ⟨i, _, hi⟩ := List.mem_flatMap.1 hu; simp at hi; rcases hi with rfl | rfl | rfl <;> rfl) (by rw [List.length_map]; exact hle) hcap
        (fun j u hu => by
          rw [hus] at hu
          have hj := (List.getElem?_eq_some_iff.1 hu).1
          rw [Nat.zero_add]
          exact ⟨.inr ⟨rfl, by omega⟩, h1 j u hu⟩) .nil
      rw [List.length_map] at this
      exact this

theorem ok_audit_Mesh : FnOK Tryz.prog B0 6 M_audit_Mesh := by
  refine ⟨⟨Tryz.f6, Tryz.func6, by kernel_rfl, by kernel_rfl⟩, ?_⟩
  rintro ⟨x, _⟩ r ha fz w vs hcells hg hr
  have ha' : m_audit_Mesh x = some r := ha
  unfold m_audit_Mesh at ha'
  split at ha'
  · rename_i hlen
    cases ha'
    obtain ⟨v0, vs, rfl, h1, hr⟩ := hr.cons_left
    cases hr.nil_left
    cases h1 with
    | @agg cs ws xs vs hcs hone _ =>
      obtain ⟨v0, r, rfl, h0, hr⟩ := hcs.cons_left
      obtain ⟨v1, r, rfl, h1, hr⟩ := hr.cons_left
      obtain ⟨v2, r, rfl, h2, hr⟩ := hr.cons_left
      obtain ⟨v3, r, rfl, h3, hr⟩ := hr.cons_left
      obtain ⟨v4, r, rfl, h4, hr⟩ := hr.cons_left
      obtain ⟨v5, r, rfl, h5, hr⟩ := hr.cons_left
      obtain ⟨v6, r, rfl, h6, hr⟩ := hr.cons_left
      cases hr.nil_left
      obtain ⟨a0, c0, rfl⟩ := slice_map (xs := x.Nodes) h0
      obtain ⟨an, b, o, cn, y, rfl, hN⟩ := note_row (xs := x.Notes) h6
      have hw := mesh_calls a0 x.Nodes.length c0 v1 v2 v3 v4 v5 an cn (x.Notes.map noteM) b o y w hN hlen.1 (by rw [List.length_map]; exact hlen.2)
        ⟨hone _ (by simp), hone _ (by simp), hone _ (by simp), hone _ (by simp), hone _ (by simp)⟩
      refine hw.mono ?_
      rintro e w' ⟨v, rfl, ho, hb⟩
      obtain ⟨fz', q1, q2, q3, q4⟩ := faults_reps (fz := fz) (fun i hi => by
        have := (List.mem_filter.1 hi).1
        have := List.mem_range.1 this
        omega) ho (fun b c h => by
        obtain ⟨u, hu⟩ := hcells b c h
        exact ⟨u, (hb.cell (p := ⟨b, c, none⟩) (cell_lt hu)).trans hu⟩)
      refine ⟨v, fz', rfl, hb, q1, fun b c h hl => q2 b c h (by omega), q3, ?_, ?_⟩
      · show Reps (bare fz') w' [.sl false 3 ((List.map (fun i : Nat => (⟨7, (i : Int), 0⟩ : api_Fault)) _).map fun a => .agg (cd69.encV a))] [v]
        rw [List.map_map]
        exact q4
      · exact (tyok31 (E := B0) rfl).nr _
  · cases ha'
end Go.Proofs.YtkepnndakhpgoaaGreatDoor

/-
  Functions of the program as functions of Lean (printed by a program of mine).
-/
namespace Go.Proofs.YtkepnndakhpgoaaGreatDoor
open Go Go.Proofs.YtkepnndakhpgoaaGreatDoor.Le
set_option linter.unusedVariables false
set_option maxRecDepth 100000
/-! wireless/wirelessref58.twice -/
inductive P_r58_twice where
  | b0 (a0 : api_Mesh) (a1 : Int)
  | b1 (a0 a1 : Int) (a2 : api_Mesh)
  | b2 (a0 a1 a2 : Int) (a3 : api_Mesh) (a4 : api_MeshNote)
  | b3 (a0 a1 a2 : Int) (a3 : api_Mesh) (a4 : api_MeshNote)
noncomputable def T_r58_twice : P_r58_twice → Tr U (Bool ⊕ P_r58_twice)
  | .b0 a0 a1 => .leaf (.inr (.b1 a1 (0 : Int) a0))
  | .b1 a0 a1 a2 => .br (decide (a1 < (↑a2.Notes.length : Int))) (
    .chk (decide (0 ≤ a1 ∧ a1 < (↑a2.Notes.length : Int))) (
      .bind 88 (a2.Notes[(Int.toNat a1)]?) (fun (x1 : api_MeshNote) => 
        .leaf (.inr (.b2 a0 a1 (0 : Int) a2 x1))))) (
    .leaf (.inl false))
  | .b2 a0 a1 a2 a3 a4 => .br (decide (a2 < a1)) (
    .chk (decide (0 ≤ a2 ∧ a2 < (↑a3.Notes.length : Int))) (
      .bind 88 (a3.Notes[(Int.toNat a2)]?) (fun (x1 : api_MeshNote) => 
        .br (a4.Node == a0) (
          .br (x1.Node == a0) (
            .br (a4.Event.Kind == (1 : Int)) (
              .br (x1.Event.Kind == (1 : Int)) (
                .br ((a4.Event.Access.Seq.Src == x1.Event.Access.Seq.Src) && ((a4.Event.Access.Seq.IV == x1.Event.Access.Seq.IV) && ((a4.Event.Access.Seq.Seq == x1.Event.Access.Seq.Seq) && true))) (
                  .leaf (.inl true)) (
                  .leaf (.inr (.b3 a0 a1 a2 a3 a4)))) (
                .leaf (.inr (.b3 a0 a1 a2 a3 a4)))) (
              .leaf (.inr (.b3 a0 a1 a2 a3 a4)))) (
            .leaf (.inr (.b3 a0 a1 a2 a3 a4)))) (
          .leaf (.inr (.b3 a0 a1 a2 a3 a4)))))) (
    .leaf (.inr (.b1 a0 (w64 (a1 + (1 : Int))) a3)))
  | .b3 a0 a1 a2 a3 a4 => .leaf (.inr (.b2 a0 a1 (w64 (a2 + (1 : Int))) a3 a4))
noncomputable def m_r58_twice (a0 : api_Mesh) (a1 : Int) : Option Bool := flow T_r58_twice (.b0 a0 a1)
noncomputable def M_r58_twice : Mod U := ⟨[29, 3], 4, fun x => m_r58_twice x.1 x.2.1, by decide⟩
def L_r58_twice_1 : Lay := ⟨[1, 2, 5], [[.keep], [.keep], [.keep]], [.var [.s 345 46, .s 347 2, .s 349 2, .keep, .keep, .s 351 4, .s 88 13]], ⟨[.one (.v 3 1 false), .one (.ptr 0), .one (.v 3 1 false)], [.var 29 7 (.agg [.v 29 7 true])]⟩⟩
def L_r58_twice_2 : Lay := ⟨[1, 2, 5, 6, 7], [[.keep], [.keep], [.keep], [.keep], [.keep]], [.var [.s 345 46, .s 347 2, .s 349 2, .keep, .keep, .s 351 4, .s 88 13], .var k0], ⟨[.one (.v 3 1 false), .one (.ptr 0), .one (.v 3 1 false), .one (.ptr 1), .one (.v 3 1 false)], [.var 29 7 (.agg [.v 29 7 true]), .var 88 13 (.agg [.v 88 13 true])]⟩⟩
def L_r58_twice_3 : Lay := ⟨[1, 2, 5, 6, 7], [[.keep], [.keep], [.keep], [.keep], [.keep]], [.var [.s 345 46, .s 347 2, .s 349 2, .keep, .keep, .s 351 4, .s 88 13], .var k0], ⟨[.one (.v 3 1 false), .one (.ptr 0), .one (.v 3 1 false), .one (.ptr 1), .one (.v 3 1 false)], [.var 29 7 (.agg [.v 29 7 true]), .var 88 13 (.agg [.v 88 13 true])]⟩⟩
def A_r58_twice : Nat → Option Lay
  | 2 => some L_r58_twice_1
  | 6 => some L_r58_twice_2
  | 7 => some L_r58_twice_3
  | _ => none
noncomputable def sp_r58_twice : P_r58_twice → Spot U
  | .b0 a0 a1 => entP Tryz.f11 [29, 3] (a0, a1, ())
  | .b1 a0 a1 a2 => spL Tryz.f11 [1, 0, 1, 0, 0, 0, 0] L_r58_twice_1 (((a0, ()), ((), ((a1, ()), ()))), ((a2, ()), ()))
  | .b2 a0 a1 a2 a3 a4 => spL Tryz.f11 [1, 0, 1, 0, 0, 1, 0, 0, 1, 1, 0, 0, 0, 0] L_r58_twice_2 (((a0, ()), ((), ((a1, ()), ((), ((a2, ()), ()))))), ((a3, ()), ((a4, ()), ())))
  | .b3 a0 a1 a2 a3 a4 => spL Tryz.f11 [1, 0, 1, 0, 0, 1, 0, 0, 1, 1, 0, 0, 1, 1] L_r58_twice_3 (((a0, ()), ((), ((a1, ()), ((), ((a2, ()), ()))))), ((a3, ()), ((a4, ()), ())))
theorem blk_r58_twice : BlkP 11 Tryz.f11 msN hsN A_r58_twice 4 T_r58_twice sp_r58_twice
  | .b0 _ _ => by kernel_rfl
  | .b1 _ _ _ => by kernel_rfl
  | .b2 _ _ _ _ _ => by kernel_rfl
  | .b3 _ _ _ _ _ => by kernel_rfl
theorem ok_r58_twice : FnOK Tryz.prog B0 11 M_r58_twice := okP blk_r58_twice (fun x => .b0 x.1 x.2.1) (by kernel_rfl) Tryz.func11 (by kernel_rfl) (by kernel_rfl) (fun _ => rfl) (fun _ => rfl)

/-! wireless/wirelessref58.Mesh -/
inductive P_r58_Mesh where
  | b0 (a0 : api_Mesh)
  | b1 (a0 : List api_Fault) (a1 : Int) (a2 : api_Mesh)
  | b2 (a0 : List api_Fault) (a1 : Int) (a2 : api_Mesh)
noncomputable def T_r58_Mesh : P_r58_Mesh → Tr U ((List api_Fault) ⊕ P_r58_Mesh)
  | .b0 a0 => .chk (([] : List api_Fault).length == 0) (
    .leaf (.inr (.b1 ([] : List api_Fault) (0 : Int) a0)))
  | .b1 a0 a1 a2 => .br (decide (a1 < (↑a2.Nodes.length : Int))) (
    .bind 4 (m_r58_twice a2 a1) (fun (x1 : Bool) => 
      .br x1 (
        .chk (([(⟨(7 : Int), a1, (0 : Int)⟩ : api_Fault)]).length == 1) (
          .chk (a0.length == a0.length) (
            .chk (decide ((a0.length + ([(⟨(7 : Int), a1, (0 : Int)⟩ : api_Fault)]).length) * 24 ≤ lim) && decide (a0.length + ([(⟨(7 : Int), a1, (0 : Int)⟩ : api_Fault)]).length ≤ maxLen)) (
              .chk ((a0 ++ [(⟨(7 : Int), a1, (0 : Int)⟩ : api_Fault)]).length == (a0 ++ [(⟨(7 : Int), a1, (0 : Int)⟩ : api_Fault)]).length) (
                .leaf (.inr (.b2 (a0 ++ [(⟨(7 : Int), a1, (0 : Int)⟩ : api_Fault)]) a1 a2))))))) (
        .chk (a0.length == a0.length) (
          .leaf (.inr (.b2 a0 a1 a2)))))) (
    .chk (a0.length == a0.length) (
      .leaf (.inl a0)))
  | .b2 a0 a1 a2 => .chk (a0.length == a0.length) (
    .leaf (.inr (.b1 a0 (w64 (a1 + (1 : Int))) a2)))
noncomputable def m_r58_Mesh (a0 : api_Mesh) : Option (List api_Fault) := flow T_r58_Mesh (.b0 a0)
noncomputable def M_r58_Mesh : Mod U := ⟨[29], 31, fun x => m_r58_Mesh x.1, by decide⟩
def L_r58_Mesh_1 : Lay := ⟨[1, 3, 4], [[.keep], [.own 70 3], [.keep]], [.var [.s 345 46, .s 347 2, .s 349 2, .keep, .keep, .s 351 4, .s 88 13], .row true], ⟨[.one (.ptr 0), .one (.own 70 1), .one (.v 3 1 false)], [.var 29 7 (.agg [.v 29 7 true]), .row 70 true]⟩⟩
def L_r58_Mesh_2 : Lay := ⟨[1, 3, 4], [[.keep], [.own 70 3], [.keep]], [.var [.s 345 46, .s 347 2, .s 349 2, .keep, .keep, .s 351 4, .s 88 13], .row true], ⟨[.one (.ptr 0), .one (.own 70 1), .one (.v 3 1 false)], [.var 29 7 (.agg [.v 29 7 true]), .row 70 true]⟩⟩
def A_r58_Mesh : Nat → Option Lay
  | 3 => some L_r58_Mesh_1
  | 4 => some L_r58_Mesh_2
  | _ => none
noncomputable def sp_r58_Mesh : P_r58_Mesh → Spot U
  | .b0 a0 => entP Tryz.f7 [29] (a0, ())
  | .b1 a0 a1 a2 => spL Tryz.f7 [1, 1, 0, 1, 0, 0, 0, 0] L_r58_Mesh_1 (((), ((), ((a1, ()), ()))), ((a2, ()), (a0, ())))
  | .b2 a0 a1 a2 => spL Tryz.f7 [1, 1, 0, 1, 0, 0, 1, 1] L_r58_Mesh_2 (((), ((), ((a1, ()), ()))), ((a2, ()), (a0, ())))
theorem blk_r58_Mesh : BlkP 7 Tryz.f7 (mc ok_r58_twice msN) hsN A_r58_Mesh 31 T_r58_Mesh sp_r58_Mesh
  | .b0 _ => by kernel_rfl
  | .b1 _ _ _ => by kernel_rfl
  | .b2 _ _ _ => by kernel_rfl
theorem ok_r58_Mesh : FnOK Tryz.prog B0 7 M_r58_Mesh := okP blk_r58_Mesh (fun x => .b0 x.1) (by kernel_rfl) Tryz.func7 (by kernel_rfl) (by kernel_rfl) (fun _ => rfl) (fun _ => rfl)

/-! wireless/wirelesslaw58.AuditMeshes -/
inductive P_law58_AuditMeshes where
  | b0 (a0 : Int) (a1 : List api_MeshNote)
  | b1 (a0 : Int) (a1 : List api_MeshNote)
noncomputable def T_law58_AuditMeshes : P_law58_AuditMeshes → Tr U (Bool ⊕ P_law58_AuditMeshes)
  | .b0 a0 a1 => .bind 4 (m_law58_lives) (fun (x1 : Bool) => 
    .br (!x1) (
      .leaf (.inl false)) (
      .br (decide (a0 < (0 : Int))) (
        .leaf (.inl true)) (
        .br (decide (a0 > (16 : Int))) (
          .leaf (.inl true)) (
          .br (decide ((↑a1.length : Int) > (60 : Int))) (
            .leaf (.inl true)) (
            .leaf (.inr (.b1 a0 a1)))))))
  | .b1 a0 a1 => .chk (decide (0 ≤ a0 ∧ a0 ≤ a0 ∧ Int.toNat a0 * 480 ≤ lim ∧ a0 ≤ (↑maxLen : Int))) (
    .chk ((List.replicate (Int.toNat a0) z_api_Node).length == (List.replicate (Int.toNat a0) z_api_Node).length) (
      .bind 31 (m_audit_Mesh (⟨(List.replicate (Int.toNat a0) z_api_Node), [], [], (0 : Int), (0 : Int), [], a1⟩ : api_Mesh)) (fun (x1 : List api_Fault) => 
        .chk ((List.replicate (Int.toNat a0) z_api_Node).length == (List.replicate (Int.toNat a0) z_api_Node).length) (
          .bind 31 (m_r58_Mesh (⟨(List.replicate (Int.toNat a0) z_api_Node), [], [], (0 : Int), (0 : Int), [], a1⟩ : api_Mesh)) (fun (x2 : List api_Fault) => 
            .bind 4 (m_r58_Same x1 x2) (fun (x3 : Bool) => 
              .leaf (.inl x3)))))))
noncomputable def m_law58_AuditMeshes (a0 : Int) (a1 : List api_MeshNote) : Option Bool := flow T_law58_AuditMeshes (.b0 a0 a1)
noncomputable def M_law58_AuditMeshes : Mod U := ⟨[3, 22], 4, fun x => m_law58_AuditMeshes x.1 x.2.1, by decide⟩
def L_law58_AuditMeshes_1 : Lay := ⟨[0, 1], [[.keep], [.s 88 13]], [], ⟨[.one (.v 3 1 false), .one (.v 22 1 false)], []⟩⟩
def A_law58_AuditMeshes : Nat → Option Lay
  | 5 => some L_law58_AuditMeshes_1
  | _ => none
noncomputable def sp_law58_AuditMeshes : P_law58_AuditMeshes → Spot U
  | .b0 a0 a1 => entP Tryz.f3 [3, 22] (a0, a1, ())
  | .b1 a0 a1 => spL Tryz.f3 [1, 1, 1, 0] L_law58_AuditMeshes_1 (((a0, ()), ((a1, ()), ())), ())
theorem blk_law58_AuditMeshes : BlkP 3 Tryz.f3 (mc ok_law58_lives (mc ok_r58_Same (mc ok_audit_Mesh (mc ok_r58_Mesh msN)))) hsN A_law58_AuditMeshes 4 T_law58_AuditMeshes sp_law58_AuditMeshes
  | .b0 _ _ => by kernel_rfl
  | .b1 _ _ => by kernel_rfl
theorem ok_law58_AuditMeshes : FnOK Tryz.prog B0 3 M_law58_AuditMeshes := okP blk_law58_AuditMeshes (fun x => .b0 x.1 x.2.1) (by kernel_rfl) Tryz.func3 (by kernel_rfl) (by kernel_rfl) (fun _ => rfl) (fun _ => rfl)

end Go.Proofs.YtkepnndakhpgoaaGreatDoor

