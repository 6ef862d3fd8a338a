/-
  chanmap.Nth: a loop over an iterator.
-/
import Derived.Test.YtjodhcdmhobmoaaGreatDoorFa7
import Derived.RangeFuncWrites
import Derived.RangeFuncBox
import Derived.RangeFuncLeaves
import Derived.WalkKit
import Derived.OwnWalkIn
import Derived.TacticsInMore
import Derived.RegionIn
import Derived.LoopNIn
import Derived.LoopIn
import Derived.Shelf.Abstract
import Derived.IntWalk
import Derived.Lib.Hide
namespace Go.Proofs.YtjodhcdmhobmoaaGreatDoor
open Go Go.RowKit Go.Shelf
attribute [local go_sem] Oper.semAt_some
set_option maxRecDepth 100000

def hasB (m : Int) (c : Nat) : Bool := (bits .and .u64 (m / 2 ^ c) 1 == 1)
def chL (m : Int) (k : Nat) : List Nat := (List.range k).filter (hasB m)

theorem has_in (F : Fence) (n : Nat) (hHAS : F.fn 223) (hro : F.round = none) (m : Int) (c : Nat) (hc : c < 37) (W : World) {b : Bool} (hb : hasB m c = b) : CallsIn F n Tryz.prog 223 #[.int .u64 m, .int .i64 c] W fun e W' => e = .returned (.bool b) ∧ W' = W := by
  refine callsIn_of_wp Tryz.func223 rfl hHAS ?_ hro
  simp only [Tryz.ntmps223, List.size_toArray, List.length_cons, List.length_nil, Nat.reduceAdd, Nat.reduceSub, Array.replicate_succ, Array.replicate_zero, List.push_toArray, List.append_toArray, List.nil_append, List.cons_append]
  have HB := Lib.hid hb; clear hb
  gi_wp2
  go_ret
  exact ⟨by rw [← HB.out]; rfl, rfl⟩
theorem chL_succ (m : Int) (k : Nat) : chL m (k + 1) = chL m k ++ if hasB m k then [k] else [] := by
  unfold chL
  rw [List.range_succ, List.filter_append]
  cases h : hasB m k <;> simp [h]
theorem chL_pre (m : Int) {k : Nat} (h : k ≤ 37) : chL m k <+: chL m 37 := by
  obtain ⟨d, hd⟩ : ∃ d, 37 = k + d := ⟨37 - k, by omega⟩
  rw [hd]
  unfold chL
  rw [List.range_add, List.filter_append]
  exact List.prefix_append _ _

set_option maxHeartbeats 1000000 in
theorem all1_in (F : Fence) (n : Nat) (hHAS : F.fn 223) (hALL1 : F.fn 347) (hro : F.round = none) (hn : 1 ≤ n) (m : Int) (l Bm : Nat) (J Jx : List Nat → World → Prop)
    (hY : ∀ pre x W, J pre W → pre.length < (chL m 37).length → YieldAt F (n - 1) Tryz.prog l #[.int .i64 (x : Nat)] W fun e W' =>
      (e = .returned (.bool true) ∧ J (pre ++ [x]) W' ∧ W'.cell? ⟨Bm, 0, none⟩ = W.cell? ⟨Bm, 0, none⟩) ∨ (e = .returned (.bool false) ∧ Jx (pre ++ [x]) W'))
    (W : World) (hBm : W.cell? ⟨Bm, 0, none⟩ = some (.int .u64 m)) (h0 : J [] W) :
    CallsIn F n Tryz.prog 347 #[.func (.yield l) #[] #[], .pointer (some ⟨Bm, 0, none⟩)] W fun e W' => (∃ v, e = .returned v) ∧
      ((∃ ys, ys = chL m 37 ∧ J ys W') ∨ (∃ pre, pre <+: chL m 37 ∧ Jx pre W')) := by
  refine callsIn_of_wp Tryz.func347 rfl hALL1 ?_ hro
  simp only [Tryz.ntmps347, List.size_toArray, List.length_cons, List.length_nil, Nat.reduceAdd, Nat.reduceSub, Array.replicate_succ, Array.replicate_zero, List.push_toArray, List.append_toArray, List.nil_append, List.cons_append]
  gi_wp2
  gi_loopw [4] (fun i wr => ∃ k : Nat, k ≤ 37 ∧ i = .int .i64 k ∧ J (chL m k) wr ∧ wr.cell? ⟨Bm, 0, none⟩ = some (.int .u64 m))
    (fun i _ => 37 - (intOf i).toNat)
  case atStart => exact ⟨0, by omega, rfl, h0, hBm⟩
  case round =>
    obtain ⟨k, hk, rfl, hJ, hcell⟩ := hrel
    by_cases hlt : k < 37
    · have hs := chL_succ m k
      have hpre := chL_pre m (k := k + 1) (by omega)
      cases hb : hasB m k with
      | false =>
        rw [hb] at hs
        simp only [Bool.false_eq_true, if_false, List.append_nil] at hs
        have HS := Lib.hid hs; clear hs hpre
        gi_wp2_with (gi_at_call 223; refine (has_in F (n - 1) hHAS hro m k hlt _ hb).mono ?_; rintro e w' ⟨rfl, rfl⟩)
        refine ⟨fun f h => (by cases h), ?_⟩
        gi_wp2
        go_roundw
        case rel => exact ⟨k + 1, by omega, by go_num, by rw [HS.out]; exact hJ, hcell⟩
        case measure => simp [intOf]; omega
      | true =>
        rw [hb] at hs
        simp only [if_true] at hs
        have hlen : (chL m k).length < (chL m 37).length := by
          have := hpre.length_le
          rw [hs] at this
          simp at this
          omega
        obtain ⟨fn, tmps, assign, body, hy, hR⟩ := hY (chL m k) k wr hJ hlen
        have HS := Lib.hid hs; have HP := Lib.hid hpre; clear hs hpre hlen
        gi_wp2_with (gi_at_call 223; refine (has_in F (n - 1) hHAS hro m k hlt _ hb).mono ?_; rintro e w' ⟨rfl, rfl⟩)
        refine hR.mono ?_
        rintro e W3 (⟨rfl, hJ3, hk3⟩ | ⟨rfl, hJx3⟩)
        · have hc3 := hk3.trans hcell
          clear hk3
          gi_wp2
          go_roundw
          case rel => exact ⟨k + 1, by omega, by go_num, by rw [HS.out]; exact hJ3, hc3⟩
          case measure => simp [intOf]; omega
        · gi_wp2
          refine bodyPost_ret (results_none rfl _ _ _) rfl ?_
          exact ⟨⟨_, rfl⟩, .inr ⟨chL m k ++ [k], by rw [← HS.out]; exact HP.out, hJx3⟩⟩
    · obtain rfl : k = 37 := by omega
      gi_wp2
      go_end0
      exact ⟨⟨_, rfl⟩, .inl ⟨_, rfl, hJ⟩⟩

def KpM (Bm : Nat) (A B : World) : Prop := B.cell? ⟨Bm, 0, none⟩ = A.cell? ⟨Bm, 0, none⟩
theorem all_stops (F : Fence) (n : Nat) (hHAS : F.fn 223) (hALL1 : F.fn 347) (hro : F.round = none) (hn : 1 ≤ n) (m : Int) (Bm : Nat) (w : World) (hBm : Bm < w.heap.size) (hc : w.cell? ⟨Bm, 0, none⟩ = some (.int .u64 m)) :
    SeqStopsK F n Tryz.prog 347 #[.pointer (some ⟨Bm, 0, none⟩)] (fun x : Nat => #[Value.int .i64 (x : Nat)]) (KpM Bm) (fun ys => ys = chL m 37) (fun pre => pre <+: chL m 37) (chL m 37).length w := fun l J Jx W hW _ _ hY h0 =>
  all1_in F n hHAS hALL1 hro hn m l Bm J Jx hY W ((hW.cell (p := ⟨Bm, 0, none⟩) hBm).trans hc) h0

theorem all_in (F : Fence) (n : Nat) (hALL : F.fn 288) (hro : F.round = none) (m : Int) (w : World) :
    CallsIn F n Tryz.prog 288 #[.int .u64 m] w fun e w' => e = .returned (.func (.func 347) #[] #[.pointer (some ⟨w.heap.size, 0, none⟩)]) ∧ w' = w.alloc (.cells #[.int .u64 m] 26) := by
  refine callsIn_of_wp Tryz.func288 rfl hALL ?_ hro
  simp only [Tryz.ntmps288, List.size_toArray, List.length_cons, List.length_nil, Nat.reduceAdd, Nat.reduceSub, Array.replicate_succ, Array.replicate_zero, List.push_toArray, List.append_toArray, List.nil_append, List.cons_append]
  gi_wp2
  go_ret
  exact ⟨rfl, rfl⟩

def nthF (m i : Int) : Int := if 0 ≤ i ∧ i < (chL m 37).length then (((chL m 37)[i.toNat]?.getD 0 : Nat) : Int) else -1

theorem boxed_own {W W' : World} {row : Option Nat} {B B0 : Nat} {t : TypeId} {v : Value} (h : Boxed W B t v) (hg : W.grownBy W' row) (hr : ∀ r, row = some r → B0 ≤ r ∧ ∃ o : Obj, W.heap[r]? = some o ∧ o.isCells = false) : Boxed W' B t v := by
  refine h.kept hg ?_
  intro e
  obtain ⟨_, o, ho, hc⟩ := hr B e.symm
  rw [show W.heap[B]? = _ from h] at ho
  cases ho
  cases hc
theorem boxed_put {W : World} {B l : Nat} {t : TypeId} {v : Value} {o o' : Obj} (h : Boxed W B t v) (hl : W.heap[l]? = some o) (hc : o.isCells = false) : Boxed (W.putObj l o') B t v :=
  boxed_own (B0 := 0) h (grownBy_putObj' W l o') (fun r e => by cases e; exact ⟨Nat.zero_le _, o, hl, hc⟩)
theorem boxed_set {W : World} {B b : Nat} {t : TypeId} {v u : Value} (h : Boxed W B t v) (hne : B ≠ b) : Boxed (W.setCell ⟨b, 0, none⟩ u) B t v :=
  (Below.heap_setCell W ⟨b, 0, none⟩ u B hne).trans h
theorem below_set {W w : World} {n b : Nat} {u : Value} (h : Below n w W) (hb : n ≤ b) : Below n w (W.setCell ⟨b, 0, none⟩ u) := h.setCell hb u

structure NthI (m i : Int) (w : World) (res : Int) (k : Nat) (W : World) : Prop where
  b0 : Boxed W w.heap.size 3 (.int .i64 i)
  b1 : Boxed W (w.heap.size + 1) 3 (.int .i64 res)
  b2 : Boxed W (w.heap.size + 1 + 1) 3 (.int .i64 k)
  b3 : Boxed W (w.heap.size + 1 + 1 + 1) 26 (.int .u64 m)
  below : Below w.heap.size w W
theorem NthI.own {m i : Int} {w : World} {res : Int} {k : Nat} {W W' : World} {row : Option Nat} {B0 : Nat} (hB : w.heap.size ≤ B0) (h : NthI m i w res k W) (hg : W.grownBy W' row) (hr : ∀ r, row = some r → B0 ≤ r ∧ ∃ o : Obj, W.heap[r]? = some o ∧ o.isCells = false) : NthI m i w res k W' :=
  ⟨boxed_own h.b0 hg hr, boxed_own h.b1 hg hr, boxed_own h.b2 hg hr, boxed_own h.b3 hg hr, h.below.grown hg h.below.size (fun k e => Nat.le_trans hB (hr k e).1)⟩

set_option maxHeartbeats 2000000 in
theorem nth_in (F : Fence) (n : Nat) (hHAS : F.fn 223) (hALL1 : F.fn 347) (hALL : F.fn 288) (hSELF : F.fn 224) (hro : F.round = none) (hn : 3 ≤ n) (m i : Int) (w : World) :
    CallsIn F n Tryz.prog 224 #[.int .u64 m, .int .i64 i] w fun e W' => e = .returned (.int .i64 (nthF m i)) ∧ Below w.heap.size w W' := by
  have h1 : 1 ≤ n := by omega
  refine callsIn_of_wp_marks Tryz.func224 rfl hSELF ?_ hro
  simp only [Tryz.ntmps224, List.size_toArray, List.length_cons, List.length_nil, Nat.reduceAdd, Nat.reduceSub, Array.replicate_succ, Array.replicate_zero, List.push_toArray, List.append_toArray, List.nil_append, List.cons_append]
  gi_wp2_with (gi_at_call 288; refine (all_in F (n - 1) hALL hro _ _).mono ?_; rintro e w' ⟨rfl, rfl⟩)
  have hI0 : NthI m i w 0 0 ((((w.alloc (Obj.cells #[Value.int IntKind.i64 i] 3)).alloc (Obj.cells #[Value.int IntKind.i64 0] 3)).alloc (Obj.cells #[Value.int IntKind.i64 0] 3)).alloc (Obj.cells #[Value.int IntKind.u64 m] 26)) := by
    refine ⟨(((Boxed.new _ _ _).alloc _).alloc _).alloc _, ?_, ?_, ?_, ((((Below.refl _ _).alloc (Nat.le_refl _) _).alloc (by simp) _).alloc (by simp; omega) _).alloc (by simp; omega) _⟩
    · have := ((Boxed.new (w.alloc (Obj.cells #[Value.int IntKind.i64 i] 3)) 3 (.int .i64 0)).alloc (Obj.cells #[Value.int IntKind.i64 0] 3)).alloc (Obj.cells #[Value.int IntKind.u64 m] 26)
      simpa using this
    · have := (Boxed.new ((w.alloc (Obj.cells #[Value.int IntKind.i64 i] 3)).alloc (Obj.cells #[Value.int IntKind.i64 0] 3)) 3 (.int .i64 0)).alloc (Obj.cells #[Value.int IntKind.u64 m] 26)
      simpa using this
    · have := Boxed.new (((w.alloc (Obj.cells #[Value.int IntKind.i64 i] 3)).alloc (Obj.cells #[Value.int IntKind.i64 0] 3)).alloc (Obj.cells #[Value.int IntKind.i64 0] 3)) 26 (.int .u64 m)
      simpa using this
  generalize hW0 : ((((w.alloc (Obj.cells #[Value.int IntKind.i64 i] 3)).alloc (Obj.cells #[Value.int IntKind.i64 0] 3)).alloc (Obj.cells #[Value.int IntKind.i64 0] 3)).alloc (Obj.cells #[Value.int IntKind.u64 m] 26)) = W0 at hI0
  have hs0 : W0.heap.size = w.heap.size + 4 := by rw [← hW0]; simp
  clear hW0
  refine wpIn_rangeFunc_ownG hro h1 (gf := 347) (lb := #[.pointer (some ⟨w.heap.size + 1 + 1 + 1, 0, none⟩)]) rfl hALL1 (enters_of Tryz.func347 (by kernel_rfl) rfl)
    (all_stops F (n - 1) hHAS hALL1 hro (by omega) m (w.heap.size + 1 + 1 + 1) W0 (by omega) hI0.b3.cell) (fun h k => k.trans h)
    (fun W l o o' hl ho hc _ => World.cell?_of_block (World.putObj_heap_other (by simp only; omega))) (Below.refl _ _) (fun _ => rfl)
    (fun pre W => NthI m i w 0 pre.length W ∧ ¬ (0 ≤ i ∧ i < pre.length))
    (fun c pre W => c = .ret ∧ ∃ (pre' : List Nat) (x : Nat), pre = pre' ++ [x] ∧ i = (pre'.length : Int) ∧ NthI m i w (x : Nat) pre'.length W)
    (fun s A B row hs hg hr => ⟨hs.1.own (by omega) hg hr, hs.2⟩)
    (fun c s A B row hs hg hr => by obtain ⟨h1, p, x, h2, h3, h4⟩ := hs; exact ⟨h1, p, x, h2, h3, h4.own (by omega) hg hr⟩)
    ⟨hI0, by simp⟩
    (fun x => { tmps := #[.int .u64 m, .int .i64 i, undef, .pointer (some ⟨w.heap.size, 0, none⟩), .pointer (some ⟨w.heap.size + 1, 0, none⟩), .pointer (some ⟨w.heap.size + 1 + 1, 0, none⟩), .int .i64 (x : Nat), .int .u64 m, .func (.func 347) #[] #[.pointer (some ⟨w.heap.size + 1 + 1 + 1, 0, none⟩)], .int .i64 (x : Nat), undef, undef, undef, undef, undef, undef], defers := [] }) ?assign ?body ?done ?stop
  case assign =>
    intro l x W K hK
    gi_wp2
    exact hK
  case body =>
    rintro l pre x W ⟨hI, hno⟩ hlen
    have hc0 := hI.b0.cell
    have hf0 := hI.b0.frozen
    have hc1 := hI.b1.cell
    have hf1 := hI.b1.frozen
    have hc2 := hI.b2.cell
    have hf2 := hI.b2.frozen
    have hl37 : pre.length < 37 := by
      have : (chL m 37).length ≤ 37 := by unfold chL; exact Nat.le_trans (List.length_filter_le _ _) (by simp)
      omega
    by_cases hx : i = (pre.length : Int)
    · subst hx
      gi_wp2
      refine ⟨KeepsFrom.of_grownBy (grownBy_setCell' W _ _) (fun j e => by cases e; omega), rfl, pre, x, rfl, rfl, boxed_set hI.b0 (by omega), hI.b1.set _, boxed_set hI.b2 (by omega), boxed_set hI.b3 (by omega), below_set hI.below (by omega)⟩
    · have hx' : ((pre.length : Int) == i) = false := by simp; omega
      gi_wp2
      refine ⟨KeepsFrom.of_grownBy (grownBy_setCell' W _ _) (fun j e => by cases e; omega), World.cell?_of_block (Below.heap_setCell W _ _ _ (by simp only; omega)), ⟨boxed_set hI.b0 (by omega), boxed_set hI.b1 (by omega), ?_, boxed_set hI.b3 (by omega), below_set hI.below (by omega)⟩, by simp; omega⟩
      have := hI.b2.set (.int .i64 (pre.length + 1 : Nat))
      simpa using this
  case done =>
    rintro D xs W hD rfl ⟨hI, hno⟩ hK
    have hc1 := hI.b1.cell
    have hf1 := hI.b1.frozen
    gi_wp2
    have hK' : (W.setCell ⟨w.heap.size + 1, 0, none⟩ (.int .i64 (-1))).heap[D]? = some (.deferred (some [])) := (Below.heap_setCell W _ _ D (by simp only; omega)).trans hK
    have hb := hI.b1.set (.int .i64 (-1))
    refine ⟨by simp, .inl ⟨_, _, rfl, run_takeDeferred hK', ?_⟩⟩
    have hc5 := (boxed_put (o' := .deferred none) hb hK' rfl).cell
    refine ⟨.int .i64 (-1), ?_, ?_, ?_⟩
    · simp [results, Tryz.f224, go_sem, hc5]
    · unfold nthF
      rw [if_neg hno]
    · exact (below_set hI.below (by omega)).trans (belowK_b (w := w) (Nat.le_refl _) _ D _ _ (by omega) hK' rfl rfl)
  case stop =>
    rintro D c pre W hD hp ⟨rfl, pre', x, rfl, hi, hI⟩ hK
    have hc1 := hI.b1.cell
    gi_wp2
    refine ⟨by simp, .inl ⟨_, _, rfl, run_takeDeferred hK, ?_⟩⟩
    have hc5 := (boxed_put (o' := .deferred none) hI.b1 hK rfl).cell
    refine ⟨.int .i64 (x : Nat), ?_, ?_, ?_⟩
    · simp [results, Tryz.f224, go_sem, hc5]
    · obtain ⟨t, ht⟩ := hp
      unfold nthF
      rw [← ht, hi]
      simp
      omega
    · exact hI.below.trans (belowK_b (w := w) (Nat.le_refl _) _ D _ _ (by omega) hK rfl rfl)

theorem nthF_bd (m i : Int) : -1 ≤ nthF m i ∧ nthF m i < 37 := by
  unfold nthF
  split
  · rename_i h
    have hx : i.toNat < (chL m 37).length := by omega
    have hm : (chL m 37)[i.toNat] ∈ chL m 37 := List.getElem_mem hx
    rw [List.getElem?_eq_getElem hx, Option.getD_some]
    generalize (chL m 37)[i.toNat] = c at hm
    have : c < 37 := by
      unfold chL at hm
      have := (List.mem_filter.1 hm).1
      simpa using this
    omega
  · omega

open Go.Proofs.YtjodhcdmhobmoaaGreatDoor.Le
noncomputable def m_chanmap_Nth (a0 a1 : Int) : Option Int := some (nthF a0 a1)
noncomputable def M_chanmap_Nth : Mod U := { ts := [26, 3], rt := 3, fn := fun x => m_chanmap_Nth x.1 x.2.1, ok := by decide }
theorem ok_chanmap_Nth : FnOK Tryz.prog B0 224 M_chanmap_Nth := by
  refine ⟨⟨Tryz.f224, Tryz.func224, by kernel_rfl, by kernel_rfl⟩, ?_⟩
  rintro ⟨m, i, _⟩ a ha fz w vs hcells hg hr
  cases ha
  obtain ⟨v0, vs, rfl, h1, hr⟩ := hr.cons_left
  obtain ⟨v1, vs, rfl, h2, hr⟩ := hr.cons_left
  cases hr.nil_left
  cases h1 with
  | lit _ _ => cases h2 with
    | lit _ _ =>
      refine (callsIn_wide.1 (nth_in Fence.wide 3 trivial trivial trivial trivial rfl (by omega) m i w)).mono ?_
      rintro e w' ⟨rfl, hb⟩
      refine ⟨_, fz, rfl, hb, fun _ _ h => h, fun _ _ h _ => h, fun b c h => ?_, .lit ?_ .nil, rfl⟩
      · obtain ⟨u, hu⟩ := hcells b c h
        exact ⟨u, (hb.cell (p := ⟨b, c, none⟩) (cell_lt hu)).trans hu⟩
      · have := nthF_bd m i
        simp [leaf, Lit.wf, IntKind.min, IntKind.max, IntKind.signed, IntKind.bits]
        omega
end Go.Proofs.YtjodhcdmhobmoaaGreatDoor
