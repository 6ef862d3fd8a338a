/-
  A part of the proof.
-/
import Derived.Test.YtefmbgacbhifdaaGreatXFa1
import Derived.RangeFuncWrites
import Derived.RangeFuncBox
import Derived.RangeFuncLeaves
import Derived.WalkKit
import Derived.OwnWalkIn
import Derived.TacticsInMore
import Derived.RegionIn
import Derived.LoopNIn
import Derived.LoopIn
import Derived.Shelf.Abstract
import Derived.IntWalk
import Derived.Lib.Hide
import Derived.Laws.Closers25b
import Derived.RangeFuncCalls
namespace Go.Proofs.YtefmbgacbhifdaaGreat
set_option maxRecDepth 100000
attribute [local go_sem] Go.Oper.semAt_some
open Go Go.RowKit Go.Shelf
def grpN (ys : List Int) : Nat → Int
  | 0 => 0
  | m + 1 => bits .or .u64 (grpN ys m) (IntKind.wrap .u64 (ys[m]?.getD 0 * 2 ^ (8 * m)))
def grpAt (xs : List Int) (k : Nat) : Int := grpN ((xs.drop (8 * k)).take 8) ((xs.drop (8 * k)).take 8).length
def gN (xs : List Int) : Nat := (xs.length + 7) / 8
theorem Znw {a b : Nat} (h : a ≤ b) : List.range a <+: List.range b := by
  obtain ⟨d, rfl⟩ : ∃ d, b = a + d := ⟨b - a, by omega⟩
  rw [List.range_add]
  exact List.prefix_append _ _
theorem meas {L k : Nat} {a b : Int} (h : 8 * k < L) (ha : a = 8 * (k : Int)) (hb : b = 8 * (k : Int) + 8) : L + 8 - (intOf (.int .i64 b)).toNat < L + 8 - (intOf (.int .i64 a)).toNat := by
  subst ha hb
  simp only [intOf]
  omega
structure BytesAt (W : World) (Bm b o cap : Nat) (a : Option Addr) (xs : List Int) : Prop where
  box : W.cell? ⟨Bm, 0, none⟩ = some (.slice a xs.length cap)
  adr : xs ≠ [] → a = some ⟨b, o, none⟩
  cells : ∀ j (h : j < xs.length), W.cell? ⟨b, o + j, none⟩ = some (.int .u8 xs[j])
  len : xs.length ≤ cap
  max : cap ≤ maxLen
  bd : ∀ x ∈ xs, 0 ≤ x ∧ x < 256
set_option maxHeartbeats 1000000 in
theorem g1_in (F : Fence) (n : Nat) (hG1 : F.fn 278) (hro : F.round = none) (hn : 1 ≤ n) (xs : List Int) (hlen : xs.length ≤ 4611686018427387904) (b o cap : Nat) (a : Option Addr) (l Bm : Nat) (J Jx : List Nat → World → Prop)
    (hY : ∀ pre x W, J pre W → pre.length < gN xs → YieldAt F (n - 1) Tryz.prog l #[.int .u64 (grpAt xs x)] W fun e W' =>
      (e = .returned (.bool true) ∧ J (pre ++ [x]) W' ∧ (BytesAt W Bm b o cap a xs → BytesAt W' Bm b o cap a xs)) ∨ (e = .returned (.bool false) ∧ Jx (pre ++ [x]) W'))
    (W : World) (hB : BytesAt W Bm b o cap a xs) (h0 : J [] W) :
    CallsIn F n Tryz.prog 278 #[.func (.yield l) #[] #[], .pointer (some ⟨Bm, 0, none⟩)] W fun e W' => (∃ v, e = .returned v) ∧
      ((∃ ys, ys = List.range (gN xs) ∧ J ys W') ∨ (∃ pre, pre <+: List.range (gN xs) ∧ Jx pre W')) := by
  refine callsIn_of_wp Tryz.func278 rfl hG1 ?_ hro
  simp only [Tryz.ntmps278, List.size_toArray, List.length_cons, List.length_nil, Nat.reduceAdd, Nat.reduceSub, Array.replicate_succ, Array.replicate_zero, List.push_toArray, List.append_toArray, List.nil_append, List.cons_append]
  gi_wp2
  gi_loopw [3] (fun i wr => ∃ k : Nat, k ≤ gN xs ∧ i = .int .i64 ((8 * k : Nat) : Int) ∧ J (List.range k) wr ∧ BytesAt wr Bm b o cap a xs)
    (fun i _ => xs.length + 8 - (intOf i).toNat)
  case atStart => exact ⟨0, by omega, rfl, by simpa using h0, hB⟩
  case round =>
    obtain ⟨k, hk, rfl, hJ, hb⟩ := hrel
    have hbox := hb.box
    by_cases hlt : 8 * k < xs.length
    · have hl := hb.len
      have hne : xs ≠ [] := by rintro rfl; simp at hlt
      obtain rfl := hb.adr hne
      have hw : wrap64 (8 * (k : Int) + 8) = 8 * (k : Int) + 8 := by unfold wrap64; omega
      have c1 : (8 * (k : Int) < xs.length) := by omega
      have c2 : (0 ≤ 8 * (k : Int) + 8) := by omega
      have c3 : (0 ≤ 8 * (k : Int)) := by omega
      have c4 : (8 * (k : Int) ≤ 8 * (k : Int) + 8) := by omega
      have c5 : ((xs.length : Int) ≤ cap) := by omega
      by_cases h8 : 8 * k + 8 ≤ xs.length
      · have d1 : ¬ ((xs.length : Int) < 8 * (k : Int) + 8) := by omega
        have d2 : (8 * (k : Int) + 8 ≤ cap) := by omega
        have d3 : (8 * (k : Int) + 8).toNat = 8 * k + 8 := by omega
        have HL := Lib.hid hl; have HE := Lib.hid hlen; have HT := Lib.hid hlt; have HK := Lib.hid hk; have H8 := Lib.hid h8
        clear hl hne hlt hk h8 hlen
        gi_wp2
        gi_loopw [4, 22] (fun acc j wi => ∃ m : Nat, m ≤ 8 ∧ j = .int .i64 (m : Int) ∧ acc = .int .u64 (grpN ((xs.drop (8 * k)).take 8) m) ∧ J (List.range k) wi ∧ BytesAt wi Bm b o cap (some ⟨b, o, none⟩) xs)
          (fun _ j _ => 8 - (intOf j).toNat)
        case atStart => exact ⟨0, by omega, rfl, rfl, hJ, hb⟩
        case round =>
          obtain ⟨m, hm, rfl, rfl, hJ2, hb2⟩ := hrel
          have hb2b := hb2.box
          by_cases hm8 : m < 8
          · have e1 : ((m : Int) < 8) := by omega
            have e2 : (0 ≤ (m : Int)) := by omega
            have e3 : m < 8 := hm8
            have hj : 8 * k + m < xs.length := by have := H8.out; omega
            have hcell : wr.cell? ⟨b, o + 8 * k + m, none⟩ = some (.int .u8 xs[8 * k + m]) := by rw [Nat.add_assoc]; exact hb2.cells _ hj
            obtain ⟨bd1, bd2⟩ := hb2.bd _ (List.getElem_mem hj)
            have e4 : IntKind.wrap .u64 xs[8 * k + m] = xs[8 * k + m] := by simp only [IntKind.wrap, IntKind.signed, IntKind.bits, Bool.false_and, Bool.false_eq_true, if_false]; omega
            have e5 : wrap64 (8 * (m : Int)) = 8 * (m : Int) := by unfold wrap64; omega
            clear hm
            have hgn : grpN ((xs.drop (8 * k)).take 8) (m + 1) = bits .or .u64 (grpN ((xs.drop (8 * k)).take 8) m) (IntKind.wrap .u64 (xs[8 * k + m] * 2 ^ (8 * m))) := by
              simp only [grpN]
              rw [List.getElem?_take, if_pos hm8, List.getElem?_drop, List.getElem?_eq_getElem hj]
              rfl
            have HG := Lib.hid hgn
            clear hgn
            gi_wp2
            go_roundw
            case rel => exact ⟨m + 1, by omega, by go_num, by rw [HG.out], hJ2, hb2⟩
            case measure => simp [intOf]; omega
          · obtain rfl : m = 8 := by omega
            have hb3 := hb2
            obtain ⟨fn, tmps, assign, body, hy, hR⟩ := hY (List.range k) k wr hJ2 (by have := H8.out; simp [gN]; omega)
            have hg : grpN ((xs.drop (8 * k)).take 8) 8 = grpAt xs k := by
              have := H8.out
              unfold grpAt
              rw [show ((xs.drop (8 * k)).take 8).length = 8 by simp; omega]
            have hstep : List.range k ++ [k] = List.range (k + 1) := List.range_succ.symm
            have hpre : List.range (k + 1) <+: List.range (gN xs) := Znw (by have := HT.out; unfold gN; omega)
            rw [hstep] at hR
            have HS := Lib.hid hstep; have HP := Lib.hid hpre; clear hstep hpre
            gi_wp2
            refine hR.mono ?_
            rintro e W3 (⟨rfl, hJ3, hk3⟩ | ⟨rfl, hJx3⟩)
            · have hb4 := hk3 hb3
              clear hk3
              gi_wp2
              go_roundw
              case rel => exact ⟨k + 1, by have := HT.out; unfold gN; omega, by simp only [Value.int.injEq, true_and]; omega, hJ3, hb4⟩
              case measure => exact meas (by have := HT.out; omega) (by omega) (by omega)
            · gi_wp2
              refine bodyPost_ret (results_none rfl _ _ _) rfl ?_
              exact ⟨⟨_, rfl⟩, .inr ⟨_, HP.out, hJx3⟩⟩
      · have d1 : ((xs.length : Int) < 8 * (k : Int) + 8) := by omega
        have d2 : (8 * (k : Int) ≤ xs.length) := by omega
        obtain ⟨q, hq⟩ : ∃ q, xs.length - 8 * k = q := ⟨_, rfl⟩
        have d3 : (0 ≤ (xs.length : Int)) := by omega
        have HQ := Lib.hid hq
        have HL := Lib.hid hl; have HE := Lib.hid hlen; have HT := Lib.hid hlt; have HK := Lib.hid hk; have H8 := Lib.hid h8
        clear hl hne hlt hk h8 hlen
        gi_wp2
        gi_loopw [4, 22] (fun acc j wi => ∃ m : Nat, m ≤ q ∧ j = .int .i64 (m : Int) ∧ acc = .int .u64 (grpN ((xs.drop (8 * k)).take 8) m) ∧ J (List.range k) wi ∧ BytesAt wi Bm b o cap (some ⟨b, o, none⟩) xs)
          (fun _ j _ => q - (intOf j).toNat)
        case atStart => exact ⟨0, by omega, rfl, rfl, hJ, hb⟩
        case round =>
          obtain ⟨m, hm, rfl, rfl, hJ2, hb2⟩ := hrel
          have hb2b := hb2.box
          by_cases hm8 : m < q
          · have e1 : ((m : Int) < q) := by omega
            have e2 : (0 ≤ (m : Int)) := by omega
            have e3 : m < xs.length - 8 * k := by have := HQ.out; omega
            have hj : 8 * k + m < xs.length := by have := HQ.out; omega
            have hcell : wr.cell? ⟨b, o + 8 * k + m, none⟩ = some (.int .u8 xs[8 * k + m]) := by rw [Nat.add_assoc]; exact hb2.cells _ hj
            obtain ⟨bd1, bd2⟩ := hb2.bd _ (List.getElem_mem hj)
            have e4 : IntKind.wrap .u64 xs[8 * k + m] = xs[8 * k + m] := by simp only [IntKind.wrap, IntKind.signed, IntKind.bits, Bool.false_and, Bool.false_eq_true, if_false]; omega
            have e5 : wrap64 (8 * (m : Int)) = 8 * (m : Int) := by have := HQ.out; have := H8.out; unfold wrap64; omega
            clear hm
            have hgn : grpN ((xs.drop (8 * k)).take 8) (m + 1) = bits .or .u64 (grpN ((xs.drop (8 * k)).take 8) m) (IntKind.wrap .u64 (xs[8 * k + m] * 2 ^ (8 * m))) := by
              simp only [grpN]
              rw [List.getElem?_take, if_pos (by have := HQ.out; have := H8.out; omega), List.getElem?_drop, List.getElem?_eq_getElem hj]
              rfl
            have HG := Lib.hid hgn
            clear hgn
            gi_wp2
            go_roundw
            case rel => exact ⟨m + 1, by omega, by go_num, by rw [HG.out], hJ2, hb2⟩
            case measure => simp [intOf]; omega
          · obtain rfl : m = q := by omega
            have hb3 := hb2
            obtain ⟨fn, tmps, assign, body, hy, hR⟩ := hY (List.range k) k wr hJ2 (by have := HT.out; simp [gN]; omega)
            have hg : grpN ((xs.drop (8 * k)).take 8) m = grpAt xs k := by
              have := H8.out
              unfold grpAt
              rw [show ((xs.drop (8 * k)).take 8).length = m by have := HQ.out; simp only [List.length_take, List.length_drop]; omega]
            have hstep : List.range k ++ [k] = List.range (k + 1) := List.range_succ.symm
            have hpre : List.range (k + 1) <+: List.range (gN xs) := Znw (by have := HT.out; unfold gN; omega)
            rw [hstep] at hR
            have HS := Lib.hid hstep; have HP := Lib.hid hpre; clear hstep hpre
            gi_wp2
            refine hR.mono ?_
            rintro e W3 (⟨rfl, hJ3, hk3⟩ | ⟨rfl, hJx3⟩)
            · have hb4 := hk3 hb3
              clear hk3
              gi_wp2
              go_roundw
              case rel => exact ⟨k + 1, by have := HT.out; unfold gN; omega, by simp only [Value.int.injEq, true_and]; omega, hJ3, hb4⟩
              case measure => exact meas (by have := HT.out; omega) (by omega) (by omega)
            · gi_wp2
              refine bodyPost_ret (results_none rfl _ _ _) rfl ?_
              exact ⟨⟨_, rfl⟩, .inr ⟨_, HP.out, hJx3⟩⟩
    · have hkk : k ≤ (xs.length + 7) / 8 := hk
      have hdone : k = gN xs := by unfold gN; omega
      rw [hdone] at hJ
      have c1 : ¬ (8 * (k : Int) < xs.length) := by omega
      gi_wp2
      go_end0
      exact ⟨⟨_, rfl⟩, .inl hJ⟩
def tagF (mx : Int → Int → Option Int) (k : Int) (xs : List Int) : Option Int :=
  if xs.length ≤ 4611686018427387904 then (mx k xs.length).bind fun s => (List.range (gN xs)).foldlM (fun s g => mx k (bits .xor .u64 s (grpAt xs g))) s else none
def MixOK (F : Fence) (mx : Int → Int → Option Int) : Prop := ∀ k s r, (Lit.int .u64 k).wf = true → (Lit.int .u64 s).wf = true → mx k s = some r → (Lit.int .u64 r).wf = true ∧
  ∀ n w, CallsIn F n Tryz.prog 221 #[.int .u64 k, .int .u64 s] w fun e w' => e = .returned (.int .u64 r) ∧ Below w.heap.size w w'
structure RowAt (W : World) (b o cap : Nat) (a : Option Addr) (xs : List Int) : Prop where
  adr : xs ≠ [] → a = some ⟨b, o, none⟩
  cells : ∀ j (h : j < xs.length), W.cell? ⟨b, o + j, none⟩ = some (.int .u8 xs[j])
  len : xs.length ≤ cap
  max : cap ≤ maxLen
  bd : ∀ x ∈ xs, 0 ≤ x ∧ x < 256
theorem RowAt.below {W W' : World} {n b o cap : Nat} {a : Option Addr} {xs : List Int} (h : RowAt W b o cap a xs) (hb : Below n W W') (hn : W.heap.size ≤ n ∨ b < n) : RowAt W' b o cap a xs :=
  ⟨h.adr, fun j hj => (hb.cell (p := ⟨b, o + j, none⟩) (by
    rcases hn with hn | hn
    · exact Nat.lt_of_lt_of_le (by have := h.cells j hj; unfold World.cell? at this; split at this <;> first | exact (Array.getElem?_eq_some_iff.1 ‹_›).1 | cases this) hn
    · exact hn)).trans (h.cells j hj), h.len, h.max, h.bd⟩
theorem BytesAt.of {W : World} {Bm b o cap : Nat} {a : Option Addr} {xs : List Int} (h : RowAt W b o cap a xs) (hb : W.cell? ⟨Bm, 0, none⟩ = some (.slice a xs.length cap)) : BytesAt W Bm b o cap a xs := ⟨hb, h.adr, h.cells, h.len, h.max, h.bd⟩
theorem BytesAt.row {W : World} {Bm b o cap : Nat} {a : Option Addr} {xs : List Int} (h : BytesAt W Bm b o cap a xs) : RowAt W b o cap a xs := ⟨h.adr, h.cells, h.len, h.max, h.bd⟩
theorem RowAt.same {W W' : World} {b o cap : Nat} {a : Option Addr} {xs : List Int} (h : RowAt W b o cap a xs) (hb : xs ≠ [] → W'.heap[b]? = W.heap[b]?) : RowAt W' b o cap a xs :=
  ⟨h.adr, fun j hj => (World.cell?_of_block (hb (by rintro rfl; cases hj))).trans (h.cells j hj), h.len, h.max, h.bd⟩
theorem RowAt.lt {W : World} {b o cap : Nat} {a : Option Addr} {xs : List Int} (h : RowAt W b o cap a xs) (hx : xs ≠ []) : b < W.heap.size := by
  have := h.cells 0 (List.length_pos_iff.2 hx)
  unfold World.cell? at this
  split at this <;> first | exact (Array.getElem?_eq_some_iff.1 ‹_›).1 | cases this
structure TagI (k : Int) (w : World) (n5 : Nat) (s : Int) (W : World) : Prop where
  key : Boxed W w.heap.size 24 (.int .u64 k)
  st : Boxed W n5 23 (.int .u64 s)
  below : Below w.heap.size w W
theorem boxed_own {W W' : World} {row : Option Nat} {B B0 : Nat} {t : TypeId} {v : Value} (h : Boxed W B t v) (hg : W.grownBy W' row) (hr : ∀ r, row = some r → B0 ≤ r ∧ ∃ o : Obj, W.heap[r]? = some o ∧ o.isCells = false) : Boxed W' B t v := by
  refine h.kept hg ?_
  intro e
  obtain ⟨_, o, ho, hc⟩ := hr B e.symm
  rw [show W.heap[B]? = _ from h] at ho
  cases ho
  cases hc
theorem TagI.own {k : Int} {w : World} {n5 : Nat} {s : Int} {W W' : World} {row : Option Nat} {B0 : Nat} (hB : w.heap.size ≤ B0) (h : TagI k w n5 s W) (hg : W.grownBy W' row) (hr : ∀ r, row = some r → B0 ≤ r ∧ ∃ o : Obj, W.heap[r]? = some o ∧ o.isCells = false) : TagI k w n5 s W' :=
  ⟨boxed_own h.key hg hr, boxed_own h.st hg hr, h.below.grown hg h.below.size (fun k e => Nat.le_trans hB (hr k e).1)⟩
theorem wf_x (a b : Int) : (Lit.int .u64 (bits .xor .u64 a b)).wf = true := by
  have := bits_within .xor .u64 a b
  simp only [Lit.wf, Bool.and_eq_true, decide_eq_true_eq]
  exact this
theorem Zut (F : Fence) (n : Nat) (hG : F.fn 222) (hro : F.round = none) (a : Option Addr) (l c : Nat) (w : World) :
    CallsIn F n Tryz.prog 222 #[.slice a l c] w fun e w' => e = .returned (.func (.func 278) #[] #[.pointer (some ⟨w.heap.size, 0, none⟩)]) ∧ w' = w.alloc (.cells #[.slice a l c] 27) := by
  refine callsIn_of_wp Tryz.func222 rfl hG ?_ hro
  simp only [Tryz.ntmps222, List.size_toArray, List.length_cons, List.length_nil, Nat.reduceAdd, Nat.reduceSub, Array.replicate_succ, Array.replicate_zero, List.push_toArray, List.append_toArray, List.nil_append, List.cons_append]
  gi_wp2
  go_ret
  exact ⟨rfl, rfl⟩
set_option maxHeartbeats 2000000 in
theorem ZyW (F : Fence) (hMIX : F.fn 221) (hG : F.fn 222) (hG1 : F.fn 278) (hSELF : F.fn 141) (hro : F.round = none) (mx : Int → Int → Option Int) (hM : MixOK F mx) (hT : ∀ k s, (Lit.int .u64 s).wf = true → ∃ r, mx k s = some r) (n : Nat) (hn : 3 ≤ n) (k : Int) (xs : List Int) (r : Int) (hk : (Lit.int .u64 k).wf = true) (hr : tagF mx k xs = some r) (b o cap : Nat) (a : Option Addr) (w : World) (hB : RowAt w b o cap a xs) :
    CallsIn F n Tryz.prog 141 #[.int .u64 k, .slice a xs.length cap] w fun e W' => e = .returned (.int .u64 r) ∧ Below w.heap.size w W' := by
  unfold tagF at hr
  split at hr
  · rename_i hlen
    cases h0 : mx k xs.length with
    | none => rw [h0] at hr; cases hr
    | some s0 =>
      rw [h0] at hr
      change (List.range (gN xs)).foldlM (fun s g => mx k (bits .xor .u64 s (grpAt xs g))) s0 = some r at hr
      have hlw : (Lit.int .u64 (xs.length : Int)).wf = true := by simp [Lit.wf, IntKind.min, IntKind.max, IntKind.signed, IntKind.bits]; omega
      obtain ⟨hs0, hC⟩ := hM k xs.length s0 hk hlw h0
      have h1 : 1 ≤ n := by omega
      refine callsIn_of_wp_marks Tryz.func141 rfl hSELF ?_ hro
      simp only [Tryz.ntmps141, List.size_toArray, List.length_cons, List.length_nil, Nat.reduceAdd, Nat.reduceSub, Array.replicate_succ, Array.replicate_zero, List.push_toArray, List.append_toArray, List.nil_append, List.cons_append]
      have hcv : IntKind.wrap .u64 (xs.length : Int) = xs.length := by simp only [IntKind.wrap, IntKind.signed, IntKind.bits, Bool.false_and, Bool.false_eq_true, if_false]; omega
      have HR := Lib.hid hr; have HS := Lib.hid hs0; have HL := Lib.hid hlen
      clear hr hs0 hlen
      gi_wp2_with (gi_at_call 221; refine (hC (n - 1) _).mono ?_; rintro e w1 ⟨rfl, hb1⟩)
      gi_wp2_with (gi_at_call 222; refine (Zut F (n - 1) hG hro _ _ _ _).mono ?_; rintro e w2 ⟨rfl, rfl⟩)
      have hb1' : w.heap.size < w1.heap.size := by have := hb1.size; simp at this; omega
      obtain ⟨W0, hW0⟩ : ∃ W0, (w1.alloc (Obj.cells #[Value.int IntKind.u64 s0] 23)).alloc (Obj.cells #[Value.slice a xs.length cap] 27) = W0 := ⟨_, rfl⟩
      have hk1 : Boxed w1 w.heap.size 24 (.int .u64 k) := (hb1.block _ (by simp)).trans (Boxed.new w 24 _)
      have hI0 : TagI k w w1.heap.size s0 W0 := by
        rw [← hW0]
        refine ⟨(hk1.alloc _).alloc _, (Boxed.new w1 23 (.int .u64 s0)).alloc _, ?_⟩
        exact (((((Below.refl _ w).alloc (Nat.le_refl _) _).trans (hb1.mono (by simp))).alloc (Nat.le_of_lt hb1') _).alloc (by simp; omega) _)
      have hbyt : BytesAt W0 (w1.heap.size + 1) b o cap a xs := by
        refine BytesAt.of (hB.below hI0.below (.inl (Nat.le_refl _))) ?_
        rw [← hW0]
        simp
      have hs0' : W0.heap.size = w1.heap.size + 2 := by rw [← hW0]; simp
      rw [hW0]
      have HB := Lib.hid hbyt
      clear hW0 hk1
      refine wpIn_rangeFunc_ownG hro h1 (gf := 278) (lb := #[.pointer (some ⟨w1.heap.size + 1, 0, none⟩)]) rfl hG1 (enters_of Tryz.func278 (by kernel_rfl) rfl) (α := Nat) (encs := fun x => #[Value.int .u64 (grpAt xs x)])
        (Kp := fun A B => BytesAt A (w1.heap.size + 1) b o cap a xs → BytesAt B (w1.heap.size + 1) b o cap a xs) (S := fun ys => ys = List.range (gN xs)) (Sp := fun pre => pre <+: List.range (gN xs)) (N := gN xs) (w0 := W0)
        (fun l J Jx W hW _ _ hY hJ => g1_in F (n - 1) hG1 hro (by omega) xs HL.out b o cap a l (w1.heap.size + 1) J Jx (fun pre x W1 h1 h2 => hY pre x W1 h1 h2)
          W (BytesAt.of (hbyt.row.below hW (.inl (Nat.le_refl _))) ((hW.cell (p := ⟨w1.heap.size + 1, 0, none⟩) (by simp; omega)).trans hbyt.box)) hJ)
        (fun h k => fun x => k (h x))
        (fun W l o o' hl ho hc _ hby => BytesAt.of (hby.row.same fun hx => World.putObj_heap_other (by have := hbyt.row.lt hx; omega)) ((World.cell?_of_block (World.putObj_heap_other (by simp only; omega))).trans hby.box))
        (Below.refl _ _) (fun _ => rfl)
        (fun pre W => ∃ s, pre.foldlM (fun s g => mx k (bits .xor .u64 s (grpAt xs g))) s0 = some s ∧ (Lit.int .u64 s).wf = true ∧ TagI k w w1.heap.size s W)
        (fun _ _ _ => False)
        (fun p A B row hs hg hr => by obtain ⟨s, q1, q2, q3⟩ := hs; exact ⟨s, q1, q2, q3.own (by omega) hg hr⟩)
        (fun c p A B row hs hg hr => hs)
        ⟨s0, rfl, HS.out, hI0⟩
        (fun x => { tmps := #[.int .u64 k, .slice a xs.length cap, .pointer (some ⟨w.heap.size, 0, none⟩), undef, .int .u64 0, .pointer (some ⟨w1.heap.size, 0, none⟩), .int .u64 (grpAt xs x), .int .u64 k, .slice a xs.length cap, .int .i64 xs.length, .int .u64 xs.length, .int .u64 s0, .slice a xs.length cap, .func (.func 278) #[] #[.pointer (some ⟨w1.heap.size + 1, 0, none⟩)], .int .u64 (grpAt xs x), undef, undef, undef, undef, undef, undef], defers := [] }) ?assign ?body ?done ?stop
      case assign =>
        intro l x W K hK
        gi_wp2
        exact hK
      case body =>
        rintro l pre x W ⟨s, q1, q2, hI⟩ hlen
        obtain ⟨r', hr'⟩ := hT k (bits .xor .u64 s (grpAt xs x)) (wf_x _ _)
        obtain ⟨hw', hC'⟩ := hM k _ r' hk (wf_x _ _) hr'
        have hc0 := hI.key.cell
        have hc1 := hI.st.cell
        have hf1 := hI.st.frozen
        have hMIXl : (F.inRound l).fn 221 := hMIX
        have h3 : 1 ≤ n - 1 - 1 := by omega
        gi_wp2_with (gi_at_call 221; refine (CallsIn.inRound l (hC' (n - 1 - 1 - 1) _)).mono ?_; rintro e W2 ⟨rfl, hb2⟩; have hst2 : Boxed W2 w1.heap.size 23 (.int .u64 s) := (hb2.block _ hI.st.lt).trans hI.st; have hky2 : Boxed W2 w.heap.size 24 (.int .u64 k) := (hb2.block _ hI.key.lt).trans hI.key; have hc2 := hst2.cell; have hf2 := hst2.frozen; clear hc0 hc1 hf1)
        refine ⟨KeepsFrom.trans ⟨hb2.size, fun j o _ hj _ => (hb2.block _ (Array.getElem?_eq_some_iff.1 hj).1).trans hj⟩ (KeepsFrom.of_grownBy (grownBy_setCell' W2 _ _) (fun j e => by cases e; omega)), fun hby => ?_, r', ?_, hw', ?_⟩
        · refine BytesAt.of ((hby.row.below hb2 (.inl (Nat.le_refl _))).same fun hx => Below.heap_setCell _ _ _ _ (by have := hB.lt hx; simp only; omega)) ?_
          have hbm : w1.heap.size + 1 < W.heap.size := by
            have := hby.box
            unfold World.cell? at this
            split at this <;> first | exact (Array.getElem?_eq_some_iff.1 ‹_›).1 | cases this
          exact (World.cell?_of_block (Below.heap_setCell _ _ _ _ (by simp only; omega))).trans ((hb2.cell (p := ⟨w1.heap.size + 1, 0, none⟩) hbm).trans hby.box)
        · simp only [List.foldlM_append, q1, List.foldlM_cons, List.foldlM_nil, Option.bind_eq_bind, Option.bind_some, hr', Option.pure_def]
        · exact ⟨(Below.heap_setCell _ _ _ _ (by simp only; omega)).trans hky2, hst2.set _, (hI.below.trans (hb2.mono hI.below.size)).setCell (p := ⟨w1.heap.size, 0, none⟩) (Nat.le_of_lt hb1') _⟩
      case done =>
        rintro D ys W hD rfl ⟨s, q1, q2, hI⟩ hK
        have hsr : s = r := Option.some.inj (q1.symm.trans HR.out)
        subst hsr
        have hc1 := hI.st.cell
        have hf1 := hI.st.frozen
        gi_wp2
        refine ⟨by simp, .inl ⟨_, _, rfl, run_takeDeferred hK, ?_⟩⟩
        refine ⟨.int .u64 s, ?_, ?_, ?_⟩
        · simp [results, Tryz.f141, go_sem]
        · rfl
        · exact hI.below.trans (belowK_b (w := w) (Nat.le_refl _) _ D _ _ (by omega) hK rfl rfl)
      case stop =>
        rintro D c pre W hD hp hf hK
        exact hf.elim
  · cases hr
open Go.Proofs.YtefmbgacbhifdaaGreat.Le
theorem Zsy {σ : Sg} {w : World} : ∀ {xs : List Int} {us : List Value}, Reps σ w (xs.map fun x => V.lit (.int .u8 x)) us → us = xs.map (fun x => Value.int .u8 x) ∧ ∀ x ∈ xs, 0 ≤ x ∧ x < 256 := by
  intro xs
  induction xs with
  | nil => intro us h; cases h.ZZ; exact ⟨rfl, by simp⟩
  | cons x xs ih =>
    intro us h
    obtain ⟨v, vs, rfl, h1, h2⟩ := h.Zq
    obtain ⟨i1, i2⟩ := ih h2
    cases h1 with
    | lit hl _ =>
      refine ⟨by rw [i1]; rfl, fun y hy => ?_⟩
      rcases List.mem_cons.1 hy with rfl | hy
      · simp [leaf, Lit.wf, IntKind.min, IntKind.max, IntKind.signed, IntKind.bits] at hl
        omega
      · exact i2 y hy
theorem row_of {σ : Sg} {w : World} {xs : List Int} {v : Value} (h : Reps σ w [.sl false 1 (xs.map fun x => V.lit (.int .u8 x))] [v]) : ∃ a b o cap, v = .slice a xs.length cap ∧ RowAt w b o cap a xs := by
  generalize hes : (xs.map fun x => V.lit (.int .u8 x)) = es at h
  cases h with
  | slnil _ =>
    have : xs = [] := by simpa using hes
    subst this
    exact ⟨none, 0, 0, 0, rfl, ⟨fun h => absurd rfl h, fun j hj => (by cases hj), Nat.le_refl _, Nat.zero_le _, by simp⟩⟩
  | slemp a _ =>
    have : xs = [] := by simpa using hes
    subst this
    exact ⟨_, 0, 0, _, rfl, ⟨fun h => absurd rfl h, fun j hj => (by cases hj), Nat.zero_le _, by first | exact Nat.zero_le _ | assumption, by simp⟩⟩
  | sl b o c e h0 h1 h2 h3 h4 h5 h6 _ =>
    subst hes
    obtain ⟨rfl, hbd⟩ := Zsy h0
    refine ⟨_, b, o, c, by rw [List.length_map], ⟨fun _ => rfl, fun j hj => ?_, by simpa using h4, h5, hbd⟩⟩
    refine (h6 j (.int .u8 xs[j]) ?_).2
    have : ∀ l : List Int, flat (l.map fun x => Value.int .u8 x) = l.map fun x => Value.int .u8 x := by
      intro l
      induction l with
      | nil => rfl
      | cons y l ih => rw [List.map_cons, Z1E, ih]; rfl
    rw [this, List.getElem?_map, List.getElem?_eq_getElem hj]
    rfl
theorem ZwF (n : Int) : 0 ≤ IntKind.wrap .u64 n := by simp only [IntKind.wrap, IntKind.signed, IntKind.bits, Bool.false_and, Bool.false_eq_true, if_false]; omega
theorem Zv0 (a b : Int) : 0 ≤ bits .and .u64 a b := (bits_within .and .u64 a b).1
theorem ZxN (a b : Int) : ∃ r, ZY a b = some r := ⟨_, (Z4 _ _).trans (by simp only [Z1A, Tr.den, flowJ, ZwF, Zv0, decide_true, cond_true]; rfl)⟩
theorem Ztq (a b : Int) : ∃ r, ZA a b = some r := ⟨_, (Z4 _ _).trans (by simp only [Z1u, Tr.den, flowJ, ZwF, Zv0, decide_true, cond_true]; rfl)⟩
theorem Zui (a : Int) : ∃ r, Z1H a 32 = some r := ⟨_, (Z4 _ _).trans (by simp [Z6c, Tr.den, flowJ]; rfl)⟩
theorem Zya (a : Int) : ∃ r, Z5a a = some r := by
  obtain ⟨x, hx⟩ := Zui a
  exact ⟨_, (Z4 _ _).trans (by simp only [Z54, Tr.den, flowJ, hx, Option.bind_some]; rfl)⟩
theorem Zx3 (a : ZR) : ∃ r, Z0O a = some r := ⟨_, (Z4 _ _).trans (by simp only [Z0U, Tr.den, flowJ]; rfl)⟩
theorem ZxY (a b c : Int) : ∃ r, Z3t a b c = some r := by
  obtain ⟨x1, h1⟩ := ZxN a (Int.tmod (w64 ((11 : Int) * (Int.tmod b (64 : Int)))) (64 : Int))
  obtain ⟨x2, h2⟩ := Zui x1
  obtain ⟨x3, h3⟩ := Ztq (IntKind.wrap .u32 (c + (IntKind.wrap .u32 (x2)))) 7
  obtain ⟨x4, h4⟩ := Ztq (IntKind.wrap .u32 (x2)) 16
  exact ⟨_, (Z4 _ _).trans (by simp only [Z55, Tr.den, flowJ, h1, h2, h3, h4, Option.bind_some]; rfl)⟩
theorem Zym (k : Int) : ∀ (n : Nat) (i : Int) (h : ZR), 0 ≤ i → 8 - i ≤ n → ∃ r, flow ZN (.b1 k i h) = some r := by
  intro n
  induction n with
  | zero =>
    intro i h h0 h8
    obtain ⟨r, hr⟩ := Zx3 h
    have : decide (i < (8 : Int)) = false := by simp; omega
    exact ⟨r, (Z4 _ _).trans (by simp only [ZN, Tr.den, flowJ, this, cond_false, hr, Option.bind_some])⟩
  | succ n ih =>
    intro i h h0 h8
    by_cases hi : i < 8
    · obtain ⟨x, hx⟩ := ZxY k i h.x1
      have hw : w64 (i + 1) = i + 1 := by simp [w64, IntKind.wrap, IntKind.signed, IntKind.bits]; split <;> omega
      obtain ⟨r, hr⟩ := ih (i + 1) ⟨h.x1, bits .xor .u32 h.x0 x⟩ (by omega) (by omega)
      have : decide (i < (8 : Int)) = true := by simp [hi]
      exact ⟨r, (Z4 _ _).trans (by simp only [ZN, Tr.den, flowJ, this, cond_true, hx, Option.bind_some, hw, hr])⟩
    · obtain ⟨r, hr⟩ := Zx3 h
      have : decide (i < (8 : Int)) = false := by simp; omega
      exact ⟨r, (Z4 _ _).trans (by simp only [ZN, Tr.den, flowJ, this, cond_false, hr, Option.bind_some])⟩
theorem t_Mix (k s : Int) : ∃ r, Z0u k s = some r := by
  obtain ⟨x, hx⟩ := Zya s
  obtain ⟨r, hr⟩ := Zym k 8 0 x (by omega) (by omega)
  exact ⟨r, (Z4 _ _).trans (by simp only [ZN, Tr.den, flowJ, hx, Option.bind_some, hr])⟩
theorem Zv2 (ok : FnOK Tryz.prog B0 221 Zbv) : MixOK Fence.wide Z0u := by
  intro k s r hk hs hr
  have key : ∀ w, Calls Tryz.prog 221 #[.int .u64 k, .int .u64 s] w fun e w' => (e = .returned (.int .u64 r) ∧ Below w.heap.size w w') ∧ (Lit.int .u64 r).wf = true := fun w => by
    have := ok.pure (k, s, ()) r hr (fun _ _ => False) w [.int .u64 k, .int .u64 s] (fun _ _ h => h.elim) (fun g r h => by cases h) (.lit hk (.lit hs .nil))
    refine this.mono ?_
    rintro e w' ⟨u, fz', rfl, hb, _, _, _, h1, _⟩
    cases h1 with
    | lit hl _ => exact ⟨⟨rfl, hb⟩, hl⟩
  refine ⟨?_, fun n w => callsIn_wide.2 ((key w).mono fun e w' h => h.1)⟩
  obtain ⟨e, w', fr, h, _⟩ := key { heap := #[], os := default, tape := default, output := default, drawn := default } []
  exact h.2
theorem Zyb {F : Fence} {mx : Int → Int → Option Int} (hM : MixOK F mx) {k : Int} (hk : (Lit.int .u64 k).wf = true) {xs : List Int} : ∀ (l : List Nat) (s r : Int), (Lit.int .u64 s).wf = true → l.foldlM (fun s g => mx k (bits .xor .u64 s (grpAt xs g))) s = some r → (Lit.int .u64 r).wf = true := by
  intro l
  induction l with
  | nil => intro s r hs h; cases h; exact hs
  | cons g l ih =>
    intro s r hs h
    rw [List.foldlM_cons] at h
    obtain ⟨s', h1, h2⟩ := Option.bind_eq_some_iff.1 h
    exact ih s' r (hM k _ s' hk (Go.Proofs.YtefmbgacbhifdaaGreat.wf_x _ _) h1).1 h2
theorem Zzk {F : Fence} {mx : Int → Int → Option Int} (hM : MixOK F mx) {k : Int} (hk : (Lit.int .u64 k).wf = true) {xs : List Int} {r : Int} (h : tagF mx k xs = some r) : (Lit.int .u64 r).wf = true := by
  unfold tagF at h
  split at h
  · rename_i hlen
    obtain ⟨s', h1, h2⟩ := Option.bind_eq_some_iff.1 h
    refine Zyb hM hk _ s' r (hM k _ s' hk ?_ h1).1 h2
    simp [Lit.wf, IntKind.min, IntKind.max, IntKind.signed, IntKind.bits]
    omega
  · cases h
noncomputable def Z9m (k : Int) (xs : List Int) : Option Int := tagF Z0u k xs
noncomputable def ZnP : Mod U := ⟨[24, 27], 23, fun x => Z9m x.1 x.2.1, by decide⟩
theorem ZpQ (ok : FnOK Tryz.prog B0 221 Zbv) (hT : ∀ k s, (Lit.int .u64 s).wf = true → ∃ r, Z0u k s = some r) : FnOK Tryz.prog B0 141 ZnP := by
  refine ⟨⟨Tryz.f141, Tryz.func141, by kernel_rfl, by kernel_rfl⟩, ?_⟩
  rintro ⟨k, xs, _⟩ r ha fz w vs hcells hg hr
  obtain ⟨v0, vs, rfl, h1, hr⟩ := hr.Zq
  obtain ⟨v1, vs, rfl, h2, hr⟩ := hr.Zq
  cases hr.ZZ
  obtain ⟨a, b, o, cap, rfl, hrow⟩ := row_of (xs := xs) h2
  cases h1 with
  | lit hl _ =>
    have hw : (Lit.int .u64 r).wf = true := Zzk (Zv2 ok) hl ha
    refine (callsIn_wide.1 (ZyW Fence.wide trivial trivial trivial trivial rfl Z0u (Zv2 ok) hT 3 (by omega) k xs r hl ha b o cap a w hrow)).mono ?_
    rintro e w' ⟨rfl, hb⟩
    refine ⟨_, fz, rfl, hb, fun _ _ h => h, fun _ _ h _ => h, fun b c h => ?_, .lit hw .nil, rfl⟩
    obtain ⟨u, hu⟩ := hcells b c h
    exact ⟨u, (hb.cell (p := ⟨b, c, none⟩) (ZeY hu)).trans hu⟩
theorem ZkB : FnOK Tryz.prog B0 141 ZnP := ZpQ Zfy fun k s _ => t_Mix k s
end Go.Proofs.YtefmbgacbhifdaaGreat
namespace Go.Proofs.YtefmbgacbhifdaaGreat
open Go Go.Proofs.YtefmbgacbhifdaaGreat.Le
set_option maxRecDepth 100000
inductive Z8j where
  | b0 (a0 : List (List Int))
  | b1 (a0 : List Int) (a1 : List (List Int)) (a2 a3 : Int)
noncomputable def Z2t : Z8j → Tr U ((List Int) ⊕ Z8j)
  | .b0 a0 => .chk (([] : List Int).length == 0) ( .leaf (.inr (.b1 ([] : List Int) a0 (↑a0.length : Int) (0 : Int))))
  | .b1 a0 a1 a2 a3 => .br (decide (a3 < a2)) ( .chk (decide (0 ≤ a3 ∧ a3 < (↑a1.length : Int))) ( .bind 27 (a1[(Int.toNat a3)]?) (fun (x1 : List Int) => .chk (a0.length == a0.length) ( .chk (decide ((a0.length + x1.length) * 1 ≤ lim) && decide (a0.length + x1.length ≤ maxLen)) ( .chk ((a0 ++ x1).length == (a0 ++ x1).length) ( .leaf (.inr (.b1 (a0 ++ x1) a1 a2 (w64 (a3 + (1 : Int))))))))))) ( .chk (a0.length == a0.length) ( .leaf (.inl a0)))
noncomputable def Zy (a0 : List (List Int)) : Option (List Int) := flow Z2t (.b0 a0)
noncomputable def Zl7 : Mod U := ⟨[73], 27, fun x => Zy x.1, by decide⟩
def Z94 : Lay := ⟨[3, 6, 7, 8], [[.own 5 1], [.s 27 1], [.keep], [.keep]], [.row true], ⟨[.one (.own 5 0), .one (.v 73 1 false), .one (.v 3 1 false), .one (.v 3 1 false)], [.row 5 true]⟩⟩
def Zlw : Nat → Option Lay
  | 3 => some Z94
  | _ => none
noncomputable def Zje : Z8j → Spot U
  | .b0 a0 => entP Tryz.f142 [73] (a0, ())
  | .b1 a0 a1 a2 a3 => spL Tryz.f142 [1, 1, 0, 1, 0, 0, 0] Z94 (((), ((a1, ()), ((a2, ()), ((a3, ()), ())))), (a0, ()))
theorem Zhj : BlkP 142 Tryz.f142 msN hsN Zlw 27 Z2t Zje
  | .b0 _ => by kernel_rfl
  | .b1 _ _ _ _ => by kernel_rfl
theorem Z0w : FnOK Tryz.prog B0 142 Zl7 := okP Zhj (fun x => .b0 x.1) (by kernel_rfl) Tryz.func142 (by kernel_rfl) (by kernel_rfl) (fun _ => rfl) (fun _ => rfl)
inductive Z71 where
  | b0 (a0 : Int)
noncomputable def Z6C : Z71 → Tr U (Bool ⊕ Z71)
  | .b0 a0 => .br (decide (a0 ≥ (1 : Int))) ( .leaf (.inl (decide (a0 ≤ (8 : Int))))) ( .leaf (.inl false))
noncomputable def Z4g (a0 : Int) : Option Bool := flow Z6C (.b0 a0)
noncomputable def Zjy : Mod U := ⟨[3], 4, fun x => Z4g x.1, by decide⟩
noncomputable def Zh2 : Z71 → Spot U
  | .b0 a0 => entP Tryz.f235 [3] (a0, ())
theorem Zgy : BlkP 235 Tryz.f235 msN hsN AN 4 Z6C Zh2
  | .b0 _ => by kernel_rfl
theorem Z9p : FnOK Tryz.prog B0 235 Zjy := okP Zgy (fun x => .b0 x.1) (by kernel_rfl) Tryz.func235 (by kernel_rfl) (by kernel_rfl) (fun _ => rfl) (fun _ => rfl)
inductive Z9s where
  | b0 (a0 : List Zf)
  | b1 (a0 : List Int) (a1 : List Zf) (a2 a3 : Int)
  | b2 (a0 : List Int) (a1 : List Zf) (a2 a3 : Int) (a4 : Zf)
  | b3 (a0 : List Int) (a1 : List Zf) (a2 a3 a4 a5 : Int) (a6 : Zf)
noncomputable def Z0o : Z9s → Tr U (((List Int) × Int) ⊕ Z9s)
  | .b0 a0 => .chk (([] : List Int).length == 0) ( .leaf (.inr (.b1 ([] : List Int) a0 (↑a0.length : Int) (0 : Int))))
  | .b1 a0 a1 a2 a3 => .br (decide (a3 < a2)) ( .chk (decide (0 ≤ a3 ∧ a3 < (↑a1.length : Int))) ( .bind 287 (a1[(Int.toNat a3)]?) (fun (x1 : Zf) => .bind 4 (Z4g x1.Size) (fun (x2 : Bool) => .br (!x2) ( .chk (([] : List Int).length == 0) ( .leaf (.inl (([] : List Int), (5 : Int))))) ( .br (decide (x1.Size < (8 : Int))) ( .chk (decide (0 ≤ (w64 ((8 : Int) * x1.Size)))) ( .br ((Int.fdiv x1.Value (2 ^ (min (Int.toNat (w64 ((8 : Int) * x1.Size))) (IntKind.bits .u64)))) != (0 : Int)) ( .chk (([] : List Int).length == 0) ( .leaf (.inl (([] : List Int), (5 : Int))))) ( .chk (a0.length == a0.length) ( .leaf (.inr (.b2 a0 a1 a2 a3 x1)))))) ( .chk (a0.length == a0.length) ( .leaf (.inr (.b2 a0 a1 a2 a3 x1))))))))) ( .chk (a0.length == a0.length) ( .leaf (.inl (a0, (0 : Int)))))
  | .b2 a0 a1 a2 a3 a4 => .chk (a0.length == a0.length) ( .leaf (.inr (.b3 a0 a1 a2 a3 a4.Size (0 : Int) a4)))
  | .b3 a0 a1 a2 a3 a4 a5 a6 => .br (decide (a5 < a4)) ( .chk (decide (0 ≤ (w64 ((8 : Int) * a5)))) ( .chk (([(IntKind.wrap .u8 ((Int.fdiv a6.Value (2 ^ (min (Int.toNat (w64 ((8 : Int) * a5))) (IntKind.bits .u64))))))]).length == 1) ( .chk (a0.length == a0.length) ( .chk (decide ((a0.length + ([(IntKind.wrap .u8 ((Int.fdiv a6.Value (2 ^ (min (Int.toNat (w64 ((8 : Int) * a5))) (IntKind.bits .u64))))))]).length) * 1 ≤ lim) && decide (a0.length + ([(IntKind.wrap .u8 ((Int.fdiv a6.Value (2 ^ (min (Int.toNat (w64 ((8 : Int) * a5))) (IntKind.bits .u64))))))]).length ≤ maxLen)) ( .chk ((a0 ++ [(IntKind.wrap .u8 ((Int.fdiv a6.Value (2 ^ (min (Int.toNat (w64 ((8 : Int) * a5))) (IntKind.bits .u64))))))]).length == (a0 ++ [(IntKind.wrap .u8 ((Int.fdiv a6.Value (2 ^ (min (Int.toNat (w64 ((8 : Int) * a5))) (IntKind.bits .u64))))))]).length) ( .leaf (.inr (.b3 (a0 ++ [(IntKind.wrap .u8 ((Int.fdiv a6.Value (2 ^ (min (Int.toNat (w64 ((8 : Int) * a5))) (IntKind.bits .u64))))))]) a1 a2 a3 a4 (w64 (a5 + (1 : Int))) a6)))))))) ( .chk (a0.length == a0.length) ( .leaf (.inr (.b1 a0 a1 a2 (w64 (a3 + (1 : Int)))))))
noncomputable def Z1I (a0 : List Zf) : Option ((List Int) × Int) := flow Z0o (.b0 a0)
noncomputable def Zo7 : Mod U := ⟨[285], 205, fun x => Z1I x.1, by decide⟩
def ZaR : Lay := ⟨[4, 8, 9, 10], [[.own 5 1], [.s 287 2], [.keep], [.keep]], [.row true], ⟨[.one (.own 5 0), .one (.v 285 1 false), .one (.v 3 1 false), .one (.v 3 1 false)], [.row 5 true]⟩⟩
def ZaP : Lay := ⟨[4, 6, 8, 9, 10], [[.own 5 1], [.keep], [.s 287 2], [.keep], [.keep]], [.row true, .var [.keep, .keep]], ⟨[.one (.own 5 0), .one (.ptr 1), .one (.v 285 1 false), .one (.v 3 1 false), .one (.v 3 1 false)], [.row 5 true, .var 287 2 (.agg [.v 287 2 true])]⟩⟩
def ZaA : Lay := ⟨[4, 6, 8, 9, 10, 33, 34], [[.own 5 1], [.keep], [.s 287 2], [.keep], [.keep], [.keep], [.keep]], [.row true, .var [.keep, .keep]], ⟨[.one (.own 5 0), .one (.ptr 1), .one (.v 285 1 false), .one (.v 3 1 false), .one (.v 3 1 false), .one (.v 3 1 false), .one (.v 3 1 false)], [.row 5 true, .var 287 2 (.agg [.v 287 2 true])]⟩⟩
def ZoQ : Nat → Option Lay
  | 3 => some ZaR
  | 7 => some ZaP
  | 8 => some ZaA
  | _ => none
noncomputable def Zlu : Z9s → Spot U
  | .b0 a0 => entP Tryz.f223 [285] (a0, ())
  | .b1 a0 a1 a2 a3 => spL Tryz.f223 [1, 1, 0, 1, 0, 0, 0] ZaR (((), ((a1, ()), ((a2, ()), ((a3, ()), ())))), (a0, ()))
  | .b2 a0 a1 a2 a3 a4 => spL Tryz.f223 [1, 1, 0, 1, 0, 0, 1, 1, 0, 0, 1, 1, 0] ZaP (((), ((), ((a1, ()), ((a2, ()), ((a3, ()), ()))))), (a0, ((a4, ()), ())))
  | .b3 a0 a1 a2 a3 a4 a5 a6 => spL Tryz.f223 [1, 1, 0, 1, 0, 0, 1, 1, 0, 0, 1, 1, 1, 0, 0, 0] ZaA (((), ((), ((a1, ()), ((a2, ()), ((a3, ()), ((a4, ()), ((a5, ()), ()))))))), (a0, ((a6, ()), ())))
theorem Zj8 : BlkP 223 Tryz.f223 (mc Z9p msN) hsN ZoQ 205 Z0o Zlu
  | .b0 _ => by kernel_rfl
  | .b1 _ _ _ _ => by kernel_rfl
  | .b2 _ _ _ _ _ => by kernel_rfl
  | .b3 _ _ _ _ _ _ _ => by kernel_rfl
theorem Z8h : FnOK Tryz.prog B0 223 Zo7 := okP Zj8 (fun x => .b0 x.1) (by kernel_rfl) Tryz.func223 (by kernel_rfl) (by kernel_rfl) (fun _ => rfl) (fun _ => rfl)
inductive ZbY where
  | b0 (a0 : List Int)
  | b1 (a0 : List Zf) (a1 : List Int) (a2 a3 : Int)
noncomputable def Z3R : ZbY → Tr U ((List Int) ⊕ ZbY)
  | .b0 a0 => .chk (([] : List Zf).length == 0) ( .leaf (.inr (.b1 ([] : List Zf) a0 (↑a0.length : Int) (0 : Int))))
  | .b1 a0 a1 a2 a3 => .br (decide (a3 < a2)) ( .chk (decide (0 ≤ a3 ∧ a3 < (↑a1.length : Int))) ( .bind 23 (a1[(Int.toNat a3)]?) (fun (x1 : Int) => .chk (([(⟨(8 : Int), x1⟩ : Zf)]).length == 1) ( .chk (a0.length == a0.length) ( .chk (decide ((a0.length + ([(⟨(8 : Int), x1⟩ : Zf)]).length) * 16 ≤ lim) && decide (a0.length + ([(⟨(8 : Int), x1⟩ : Zf)]).length ≤ maxLen)) ( .chk ((a0 ++ [(⟨(8 : Int), x1⟩ : Zf)]).length == (a0 ++ [(⟨(8 : Int), x1⟩ : Zf)]).length) ( .leaf (.inr (.b1 (a0 ++ [(⟨(8 : Int), x1⟩ : Zf)]) a1 a2 (w64 (a3 + (1 : Int)))))))))))) ( .chk (a0.length == a0.length) ( .bind 205 (Z1I a0) (fun (x2 : (List Int) × Int) => .leaf (.inl x2.1))))
noncomputable def Z2K (a0 : List Int) : Option (List Int) := flow Z3R (.b0 a0)
noncomputable def Zpi : Mod U := ⟨[188], 27, fun x => Z2K x.1, by decide⟩
def Zdf : Lay := ⟨[3, 8, 9, 10], [[.own 287 2], [.s 23 1], [.keep], [.keep]], [.row true], ⟨[.one (.own 287 0), .one (.v 188 1 false), .one (.v 3 1 false), .one (.v 3 1 false)], [.row 287 true]⟩⟩
def ZpK : Nat → Option Lay
  | 3 => some Zdf
  | _ => none
noncomputable def Zp2 : ZbY → Spot U
  | .b0 a0 => entP Tryz.f143 [188] (a0, ())
  | .b1 a0 a1 a2 a3 => spL Tryz.f143 [1, 1, 0, 1, 0, 0, 0] Zdf (((), ((a1, ()), ((a2, ()), ((a3, ()), ())))), (a0, ()))
theorem Zl6 : BlkP 143 Tryz.f143 (mc Z8h msN) hsN ZpK 27 Z3R Zp2
  | .b0 _ => by kernel_rfl
  | .b1 _ _ _ _ => by kernel_rfl
theorem Z98 : FnOK Tryz.prog B0 143 Zpi := okP Zl6 (fun x => .b0 x.1) (by kernel_rfl) Tryz.func143 (by kernel_rfl) (by kernel_rfl) (fun _ => rfl) (fun _ => rfl)
inductive Z9Y where
  | b0 (a0 : Int) (a1 : ByteArray) (a2 : List Int)
noncomputable def Z9q : Z9Y → Tr U (Int ⊕ Z9Y)
  | .b0 a0 a1 a2 => .chk (okStr U 5 a1) ( .bind 27 (Z2K a2) (fun (x1 : List Int) => .chk ((Z1d U 5 a1).length == (Z1d U 5 a1).length) ( .chk (([(0 : Int)]).length == 1) ( .chk (([(Z1d U 5 a1), [(0 : Int)], x1]).length == 3) ( .bind 27 (Zy ([(Z1d U 5 a1), [(0 : Int)], x1])) (fun (x2 : List Int) => .bind 23 (Z9m a0 x2) (fun (x3 : Int) => .leaf (.inl x3))))))))
noncomputable def Z1J (a0 : Int) (a1 : ByteArray) (a2 : List Int) : Option Int := flow Z9q (.b0 a0 a1 a2)
noncomputable def ZnT : Mod U := ⟨[24, 9, 188], 24, fun x => Z1J x.1 x.2.1 x.2.2.1, by decide⟩
noncomputable def ZlA : Z9Y → Spot U
  | .b0 a0 a1 a2 => entP Tryz.f60 [24, 9, 188] (a0, a1, a2, ())
theorem ZiK : BlkP 60 Tryz.f60 (mc ZkB (mc Z0w (mc Z98 msN))) hsN AN 24 Z9q ZlA
  | .b0 _ _ _ => by kernel_rfl
theorem Z7J : FnOK Tryz.prog B0 60 ZnT := okP ZiK (fun x => .b0 x.1 x.2.1 x.2.2.1) (by kernel_rfl) Tryz.func60 (by kernel_rfl) (by kernel_rfl) (fun _ => rfl) (fun _ => rfl)
inductive Z4Q where
  | b0 (a0 : Int)
noncomputable def Z4M : Z4Q → Tr U (Zd ⊕ Z4Q)
  | .b0 a0 => .bind 24 (Z1J a0 (⟨#[110, 105, 100]⟩ : ByteArray) ([])) (fun (x1 : Int) => .bind 24 (Z1J a0 (⟨#[101, 110, 99, 114, 121, 112, 116]⟩ : ByteArray) ([])) (fun (x2 : Int) => .bind 24 (Z1J a0 (⟨#[104, 105, 100, 101]⟩ : ByteArray) ([])) (fun (x3 : Int) => .bind 24 (Z1J a0 (⟨#[98, 101, 97, 99, 111, 110]⟩ : ByteArray) ([])) (fun (x4 : Int) => .leaf (.inl (⟨a0, (w64 ((Int.tmod x1 (128 : Int)))), x2, x3, x4⟩ : Zd))))))
noncomputable def Z4Y (a0 : Int) : Option Zd := flow Z4M (.b0 a0)
noncomputable def Zgf : Mod U := ⟨[24], 30, fun x => Z4Y x.1, by decide⟩
noncomputable def ZeD : Z4Q → Spot U
  | .b0 a0 => entP Tryz.f24 [24] (a0, ())
theorem Zd6 : BlkP 24 Tryz.f24 (mc Z7J msN) hsN AN 30 Z4M ZeD
  | .b0 _ => by kernel_rfl
theorem Zeu : FnOK Tryz.prog B0 24 Zgf := okP Zd6 (fun x => .b0 x.1) (by kernel_rfl) Tryz.func24 (by kernel_rfl) (by kernel_rfl) (fun _ => rfl) (fun _ => rfl)
inductive Zei where
  | b0 (a0 a1 a2 a3 : Int) (a4 a5 : Bool)
noncomputable def Zem : Zei → Tr U ((Z8 × Int) ⊕ Zei)
  | .b0 a0 a1 a2 a3 a4 a5 => .bind 4 (Z1g a0) (fun (x1 : Bool) => .br (!x1) ( .leaf (.inl (ZeC, (1 : Int)))) ( .bind 30 (Z4Y a3) (fun (x2 : Zd) => .leaf (.inl ((⟨a0, a1, a2, (⟨(0 : Int), x2, Z6t⟩ : ZK), Z0a, (0 : Int), a4, a5, [], [], [], (⟨[], []⟩ : Z7), Z4z, Z2A, [], (0 : Int), true⟩ : Z8), (0 : Int))))))
noncomputable def Z3E (a0 a1 a2 a3 : Int) (a4 a5 : Bool) : Option (Z8 × Int) := flow Zem (.b0 a0 a1 a2 a3 a4 a5)
noncomputable def ZrO : Mod U := ⟨[22, 24, 24, 24, 4, 4], 52, fun x => Z3E x.1 x.2.1 x.2.2.1 x.2.2.2.1 x.2.2.2.2.1 x.2.2.2.2.2.1, by decide⟩
noncomputable def Zph : Zei → Spot U
  | .b0 a0 a1 a2 a3 a4 a5 => entP Tryz.f9 [22, 24, 24, 24, 4, 4] (a0, a1, a2, a3, a4, a5, ())
theorem Zp3 : BlkP 9 Tryz.f9 (mc Z4e (mc Zeu msN)) hsN AN 52 Zem Zph
  | .b0 _ _ _ _ _ _ => by kernel_rfl
theorem ZhM : FnOK Tryz.prog B0 9 ZrO := okP Zp3 (fun x => .b0 x.1 x.2.1 x.2.2.1 x.2.2.2.1 x.2.2.2.2.1 x.2.2.2.2.2.1) (by kernel_rfl) Tryz.func9 (by kernel_rfl) (by kernel_rfl) (fun _ => rfl) (fun _ => rfl)
inductive Z6R where
  | b0 (a0 : Int)
noncomputable def ZaS : Z6R → Tr U (Bool ⊕ Z6R)
  | .b0 a0 => .leaf (.inl (decide (a0 ≥ (49152 : Int))))
noncomputable def Z2C (a0 : Int) : Option Bool := flow ZaS (.b0 a0)
noncomputable def Zjl : Mod U := ⟨[22], 4, fun x => Z2C x.1, by decide⟩
noncomputable def ZhY : Z6R → Spot U
  | .b0 a0 => entP Tryz.f62 [22] (a0, ())
theorem Zgr : BlkP 62 Tryz.f62 msN hsN AN 4 ZaS ZhY
  | .b0 _ => by kernel_rfl
theorem Z5B : FnOK Tryz.prog B0 62 Zjl := okP Zgr (fun x => .b0 x.1) (by kernel_rfl) Tryz.func62 (by kernel_rfl) (by kernel_rfl) (fun _ => rfl) (fun _ => rfl)
inductive Z9E where
  | b0 (a0 : ZM)
  | b1 (a0 : ZM)
  | b2 (a0 : ZM)
noncomputable def Z2Z : Z9E → Tr U (Int ⊕ Z9E)
  | .b0 a0 => .br a0.Updating ( .br (a0.Index != (0 : Int)) ( .leaf (.inr (.b1 a0))) ( .leaf (.inr (.b2 a0)))) ( .leaf (.inr (.b2 a0)))
  | .b1 a0 => .leaf (.inl (IntKind.wrap .u32 (a0.Index - (1 : Int))))
  | .b2 a0 => .leaf (.inl a0.Index)
noncomputable def Z6o (a0 : ZM) : Option Int := flow Z2Z (.b0 a0)
noncomputable def ZoG : Mod U := ⟨[35], 33, fun x => Z6o x.1, by decide⟩
def ZaJ : Lay := ⟨[1], [[.keep]], [.var k6], ⟨[.one (.ptr 0)], [.var 35 3 (.agg [.v 35 3 true])]⟩⟩
def ZaF : Lay := ⟨[1], [[.keep]], [.var k6], ⟨[.one (.ptr 0)], [.var 35 3 (.agg [.v 35 3 true])]⟩⟩
def Zon : Nat → Option Lay
  | 2 => some ZaJ
  | 3 => some ZaF
  | _ => none
noncomputable def ZlL : Z9E → Spot U
  | .b0 a0 => entP Tryz.f63 [35] (a0, ())
  | .b1 a0 => spL Tryz.f63 [1, 0, 1, 0, 0] ZaJ (((), ()), ((a0, ()), ()))
  | .b2 a0 => spL Tryz.f63 [1, 1, 0] ZaF (((), ()), ((a0, ()), ()))
theorem ZjD : BlkP 63 Tryz.f63 msN hsN Zon 33 Z2Z ZlL
  | .b0 _ => by kernel_rfl
  | .b1 _ => by kernel_rfl
  | .b2 _ => by kernel_rfl
theorem Zdn : FnOK Tryz.prog B0 63 ZoG := okP ZjD (fun x => .b0 x.1) (by kernel_rfl) Tryz.func63 (by kernel_rfl) (by kernel_rfl) (fun _ => rfl) (fun _ => rfl)
inductive Z5x where
  | b0 (a0 : List Int)
noncomputable def Z60 : Z5x → Tr U (Int ⊕ Z5x)
  | .b0 a0 => .bind 24 (Z1J (0 : Int) (⟨#[110, 111, 110, 99, 101]⟩ : ByteArray) a0) (fun (x1 : Int) => .leaf (.inl x1))
noncomputable def Z5t (a0 : List Int) : Option Int := flow Z60 (.b0 a0)
noncomputable def Ziv : Mod U := ⟨[188], 23, fun x => Z5t x.1, by decide⟩
noncomputable def Zgc : Z5x → Spot U
  | .b0 a0 => entP Tryz.f279 [188] (a0, ())
theorem Zf9 : BlkP 279 Tryz.f279 (mc Z7J msN) hsN AN 23 Z60 Zgc
  | .b0 _ => by kernel_rfl
theorem Zga : FnOK Tryz.prog B0 279 Ziv := okP Zf9 (fun x => .b0 x.1) (by kernel_rfl) Tryz.func279 (by kernel_rfl) (by kernel_rfl) (fun _ => rfl) (fun _ => rfl)
inductive Z5G where
  | b0 (a0 a1 a2 a3 : Int)
noncomputable def Z5Z : Z5G → Tr U (Int ⊕ Z5G)
  | .b0 a0 a1 a2 a3 => .chk (([(IntKind.wrap .u64 (a0)), (IntKind.wrap .u64 (a1)), (IntKind.wrap .u64 (a2)), (IntKind.wrap .u64 (a3))]).length == 4) ( .bind 23 (Z5t ([(IntKind.wrap .u64 (a0)), (IntKind.wrap .u64 (a1)), (IntKind.wrap .u64 (a2)), (IntKind.wrap .u64 (a3))])) (fun (x1 : Int) => .leaf (.inl x1)))
noncomputable def Z3k (a0 a1 a2 a3 : Int) : Option Int := flow Z5Z (.b0 a0 a1 a2 a3)
noncomputable def ZgT : Mod U := ⟨[3, 22, 33, 33], 23, fun x => Z3k x.1 x.2.1 x.2.2.1 x.2.2.2.1, by decide⟩
noncomputable def Zgv : Z5G → Spot U
  | .b0 a0 a1 a2 a3 => entP Tryz.f224 [3, 22, 33, 33] (a0, a1, a2, a3, ())
theorem Zec : BlkP 224 Tryz.f224 (mc Zga msN) hsN AN 23 Z5Z Zgv
  | .b0 _ _ _ _ => by kernel_rfl
theorem Z8G : FnOK Tryz.prog B0 224 ZgT := okP Zec (fun x => .b0 x.1 x.2.1 x.2.2.1 x.2.2.2.1) (by kernel_rfl) Tryz.func224 (by kernel_rfl) (by kernel_rfl) (fun _ => rfl) (fun _ => rfl)
inductive Z4V where
  | b0 (a0 : Bool) (a1 : Za) (a2 : Int)
  | b1 (a0 a1 : Int) (a2 : Za)
noncomputable def Z2E : Z4V → Tr U ((Int × (List Int)) ⊕ Z4V)
  | .b0 a0 a1 a2 => .br a0 ( .leaf (.inr (.b1 a2 (1 : Int) a1))) ( .leaf (.inr (.b1 a2 (2 : Int) a1)))
  | .b1 a0 a1 a2 => .bind 23 (Z3k a1 a2.Src a2.Seq a2.IV) (fun (x1 : Int) => .chk (([(IntKind.wrap .u8 (a0)), (IntKind.wrap .u8 ((Int.fdiv a0 (2 ^ (8 : Nat)))))]).length == 2) ( .leaf (.inl (x1, [(IntKind.wrap .u8 (a0)), (IntKind.wrap .u8 ((Int.fdiv a0 (2 ^ (8 : Nat)))))]))))
noncomputable def Z4W (a0 : Bool) (a1 : Za) (a2 : Int) : Option (Int × (List Int)) := flow Z2E (.b0 a0 a1 a2)
noncomputable def Zgq : Mod U := ⟨[4, 64, 22], 230, fun x => Z4W x.1 x.2.1 x.2.2.1, by decide⟩
def Z6m : Lay := ⟨[2, 4, 8], [[.keep], [.keep], [.keep]], [.var k6], ⟨[.one (.v 22 1 false), .one (.ptr 0), .one (.v 3 1 false)], [.var 64 3 (.agg [.v 64 3 true])]⟩⟩
def Zgh : Nat → Option Lay
  | 4 => some Z6m
  | _ => none
noncomputable def Zfe : Z4V → Spot U
  | .b0 a0 a1 a2 => entP Tryz.f144 [4, 64, 22] (a0, a1, a2, ())
  | .b1 a0 a1 a2 => spL Tryz.f144 [1, 1, 1, 0] Z6m (((a0, ()), ((), ((a1, ()), ()))), ((a2, ()), ()))
theorem Zdx : BlkP 144 Tryz.f144 (mc Z8G msN) hsN Zgh 230 Z2E Zfe
  | .b0 _ _ _ => by kernel_rfl
  | .b1 _ _ _ => by kernel_rfl
theorem Zf4 : FnOK Tryz.prog B0 144 Zgq := okP Zdx (fun x => .b0 x.1 x.2.1 x.2.2.1) (by kernel_rfl) Tryz.func144 (by kernel_rfl) (by kernel_rfl) (fun _ => rfl) (fun _ => rfl)
inductive Z9t where
  | b0 (a0 a1 : List Int)
  | b1 (a0 a1 a2 : List Int) (a3 a4 : Int)
noncomputable def Z33 : Z9t → Tr U ((List Int) ⊕ Z9t)
  | .b0 a0 a1 => .chk (decide (0 ≤ (if (↑a1.length : Int) < (↑a0.length : Int) then (↑a1.length : Int) else (↑a0.length : Int)) ∧ (if (↑a1.length : Int) < (↑a0.length : Int) then (↑a1.length : Int) else (↑a0.length : Int)) ≤ (if (↑a1.length : Int) < (↑a0.length : Int) then (↑a1.length : Int) else (↑a0.length : Int)) ∧ Int.toNat (if (↑a1.length : Int) < (↑a0.length : Int) then (↑a1.length : Int) else (↑a0.length : Int)) * 1 ≤ lim ∧ (if (↑a1.length : Int) < (↑a0.length : Int) then (↑a1.length : Int) else (↑a0.length : Int)) ≤ (↑maxLen : Int))) ( .chk ((List.replicate (Int.toNat (if (↑a1.length : Int) < (↑a0.length : Int) then (↑a1.length : Int) else (↑a0.length : Int))) (0 : Int)).length == (List.replicate (Int.toNat (if (↑a1.length : Int) < (↑a0.length : Int) then (↑a1.length : Int) else (↑a0.length : Int))) (0 : Int)).length) ( .chk ((List.replicate (Int.toNat (if (↑a1.length : Int) < (↑a0.length : Int) then (↑a1.length : Int) else (↑a0.length : Int))) (0 : Int)).length == (List.replicate (Int.toNat (if (↑a1.length : Int) < (↑a0.length : Int) then (↑a1.length : Int) else (↑a0.length : Int))) (0 : Int)).length) ( .leaf (.inr (.b1 a0 a1 (List.replicate (Int.toNat (if (↑a1.length : Int) < (↑a0.length : Int) then (↑a1.length : Int) else (↑a0.length : Int))) (0 : Int)) (↑((List.replicate (Int.toNat (if (↑a1.length : Int) < (↑a0.length : Int) then (↑a1.length : Int) else (↑a0.length : Int))) (0 : Int)).length) : Int) (0 : Int))))))
  | .b1 a0 a1 a2 a3 a4 => .br (decide (a4 < a3)) ( .chk (decide (0 ≤ a4 ∧ a4 < (↑a0.length : Int))) ( .bind 5 (a0[(Int.toNat a4)]?) (fun (x1 : Int) => .chk (decide (0 ≤ a4 ∧ a4 < (↑a1.length : Int))) ( .bind 5 (a1[(Int.toNat a4)]?) (fun (x2 : Int) => .chk (a2.length == a2.length) ( .chk (decide (0 ≤ a4 ∧ a4 < (↑a2.length : Int))) ( .chk (a2.length == a2.length && decide (0 ≤ (Int.toNat a4))) ( .bind 5 (a2[(Int.toNat a4)]?) (fun (x3 : Int) => .chk ((a2.set (Int.toNat a4) (bits .xor .u8 x1 x2)).length == a2.length) ( .leaf (.inr (.b1 a0 a1 (a2.set (Int.toNat a4) (bits .xor .u8 x1 x2)) a3 (w64 (a4 + (1 : Int))))))))))))))) ( .chk (a2.length == a2.length) ( .leaf (.inl a2)))
noncomputable def Z9M (a0 a1 : List Int) : Option (List Int) := flow Z33 (.b0 a0 a1)
noncomputable def Zmw : Mod U := ⟨[27, 27], 27, fun x => Z9M x.1 x.2.1, by decide⟩
def Zay : Lay := ⟨[0, 1, 5, 14, 15], [[.s 5 1], [.s 5 1], [.own 5 1], [.keep], [.keep]], [.row true], ⟨[.one (.v 27 1 false), .one (.v 27 1 false), .one (.own 5 0), .one (.v 3 1 false), .one (.v 3 1 false)], [.row 5 true]⟩⟩
def Zo2 : Nat → Option Lay
  | 3 => some Zay
  | _ => none
noncomputable def Zld : Z9t → Spot U
  | .b0 a0 a1 => entP Tryz.f225 [27, 27] (a0, a1, ())
  | .b1 a0 a1 a2 a3 a4 => spL Tryz.f225 [1, 1, 0, 1, 0, 0, 0] Zay (((a0, ()), ((a1, ()), ((), ((a3, ()), ((a4, ()), ()))))), (a2, ()))
theorem ZiP : BlkP 225 Tryz.f225 msN hsN Zo2 27 Z33 Zld
  | .b0 _ _ => by kernel_rfl
  | .b1 _ _ _ _ _ => by kernel_rfl
theorem ZlE : FnOK Tryz.prog B0 225 Zmw := okP ZiP (fun x => .b0 x.1 x.2.1) (by kernel_rfl) Tryz.func225 (by kernel_rfl) (by kernel_rfl) (fun _ => rfl) (fun _ => rfl)
inductive Z9w where
  | b0 (a0 a1 a2 : Int)
  | b1 (a0 a1 a2 : Int) (a3 : List Int) (a4 : Int)
noncomputable def Z32 : Z9w → Tr U ((List Int) ⊕ Z9w)
  | .b0 a0 a1 a2 => .bind 23 (Z0u a0 a1) (fun (x1 : Int) => .chk (decide (0 ≤ (0 : Int) ∧ (0 : Int) ≤ (w64 (a2 + (8 : Int))) ∧ Int.toNat (w64 (a2 + (8 : Int))) * 1 ≤ lim ∧ (w64 (a2 + (8 : Int))) ≤ (↑maxLen : Int))) ( .chk ((List.replicate (Int.toNat (0 : Int)) (0 : Int)).length == (List.replicate (Int.toNat (0 : Int)) (0 : Int)).length) ( .leaf (.inr (.b1 a0 a2 x1 (List.replicate (Int.toNat (0 : Int)) (0 : Int)) (0 : Int))))))
  | .b1 a0 a1 a2 a3 a4 => .chk (a3.length == a3.length) ( .br (decide ((↑a3.length : Int) < a1)) ( .bind 23 (Z0u a0 (IntKind.wrap .u64 (a2 + a4))) (fun (x1 : Int) => .chk (([x1]).length == 1) ( .bind 27 (Z2K ([x1])) (fun (x2 : List Int) => .chk (a3.length == a3.length) ( .chk (decide ((a3.length + x2.length) * 1 ≤ lim) && decide (a3.length + x2.length ≤ maxLen)) ( .chk ((a3 ++ x2).length == (a3 ++ x2).length) ( .leaf (.inr (.b1 a0 a1 a2 (a3 ++ x2) (IntKind.wrap .u64 (a4 + (1 : Int)))))))))))) ( .chk (a3.length == a3.length) ( .chk (decide (0 ≤ a1 ∧ a1 ≤ (↑a3.length : Int))) ( .chk (decide (0 ≤ a1 ∧ a1 ≤ (↑a3.length : Int))) ( .chk ((Int.toNat a1) == (Int.toNat a1)) ( .chk (a3.length == a3.length) ( .leaf (.inl ((a3.drop 0).take ((Int.toNat a1) - 0))))))))))
noncomputable def Z9g (a0 a1 a2 : Int) : Option (List Int) := flow Z32 (.b0 a0 a1 a2)
noncomputable def Zoi : Mod U := ⟨[24, 23, 3], 27, fun x => Z9g x.1 x.2.1 x.2.2.1, by decide⟩
def ZaC : Lay := ⟨[0, 2, 7, 8, 9], [[.keep], [.keep], [.keep], [.own 5 1], [.keep]], [.row true], ⟨[.one (.v 24 1 false), .one (.v 3 1 false), .one (.v 23 1 false), .one (.own 5 0), .one (.v 23 1 false)], [.row 5 true]⟩⟩
def Zoc : Nat → Option Lay
  | 4 => some ZaC
  | _ => none
noncomputable def Zmj : Z9w → Spot U
  | .b0 a0 a1 a2 => entP Tryz.f226 [24, 23, 3] (a0, a1, a2, ())
  | .b1 a0 a1 a2 a3 a4 => spL Tryz.f226 [1, 1, 1, 0, 1, 0, 0, 0, 0] ZaC (((a0, ()), ((a1, ()), ((a2, ()), ((), ((a4, ()), ()))))), (a3, ()))
theorem Zjd : BlkP 226 Tryz.f226 (mc Z98 (mc Zfy msN)) hsN Zoc 27 Z32 Zmj
  | .b0 _ _ _ => by kernel_rfl
  | .b1 _ _ _ _ _ => by kernel_rfl
theorem Zls : FnOK Tryz.prog B0 226 Zoi := okP Zjd (fun x => .b0 x.1 x.2.1 x.2.2.1) (by kernel_rfl) Tryz.func226 (by kernel_rfl) (by kernel_rfl) (fun _ => rfl) (fun _ => rfl)
inductive Zea where
  | b0 (a0 a1 : Int) (a2 a3 : List Int)
noncomputable def Zfc : Zea → Tr U ((List Int) ⊕ Zea)
  | .b0 a0 a1 a2 a3 => .chk (([(⟨(4 : Int), (IntKind.wrap .u64 ((IntKind.wrap .u32 ((↑a2.length : Int)))))⟩ : Zf)]).length == 1) ( .bind 205 (Z1I ([(⟨(4 : Int), (IntKind.wrap .u64 ((IntKind.wrap .u32 ((↑a2.length : Int)))))⟩ : Zf)])) (fun (x1 : (List Int) × Int) => .chk (([a1]).length == 1) ( .bind 27 (Z2K ([a1])) (fun (x2 : List Int) => .chk (([x2, x1.1, a2, a3]).length == 4) ( .bind 27 (Zy ([x2, x1.1, a2, a3])) (fun (x3 : List Int) => .bind 23 (Z9m a0 x3) (fun (x4 : Int) => .chk (([x4]).length == 1) ( .bind 27 (Z2K ([x4])) (fun (x5 : List Int) => .chk (decide (0 ≤ (4 : Int) ∧ (4 : Int) ≤ (↑x5.length : Int))) ( .leaf (.inl ((x5.drop 0).take ((Int.toNat (4 : Int)) - 0)))))))))))))
noncomputable def Zf2 (a0 a1 : Int) (a2 a3 : List Int) : Option (List Int) := flow Zfc (.b0 a0 a1 a2 a3)
noncomputable def ZrH : Mod U := ⟨[24, 23, 27, 27], 27, fun x => Zf2 x.1 x.2.1 x.2.2.1 x.2.2.2.1, by decide⟩
noncomputable def ZpV : Zea → Spot U
  | .b0 a0 a1 a2 a3 => entP Tryz.f227 [24, 23, 27, 27] (a0, a1, a2, a3, ())
theorem Zoh : BlkP 227 Tryz.f227 (mc ZkB (mc Z0w (mc Z98 (mc Z8h msN)))) hsN AN 27 Zfc ZpV
  | .b0 _ _ _ _ => by kernel_rfl
theorem ZpH : FnOK Tryz.prog B0 227 ZrH := okP Zoh (fun x => .b0 x.1 x.2.1 x.2.2.1 x.2.2.2.1) (by kernel_rfl) Tryz.func227 (by kernel_rfl) (by kernel_rfl) (fun _ => rfl) (fun _ => rfl)
inductive ZeE where
  | b0 (a0 a1 : Int) (a2 a3 : List Int)
noncomputable def ZdW : ZeE → Tr U ((List Int) ⊕ ZeE)
  | .b0 a0 a1 a2 a3 => .bind 27 (Z9g a0 a1 (↑a3.length : Int)) (fun (x1 : List Int) => .bind 27 (Z9M a3 x1) (fun (x2 : List Int) => .bind 27 (Zf2 a0 a1 a2 x2) (fun (x3 : List Int) => .chk (([x2, x3]).length == 2) ( .bind 27 (Zy ([x2, x3])) (fun (x4 : List Int) => .leaf (.inl x4))))))
noncomputable def Z7h (a0 a1 : Int) (a2 a3 : List Int) : Option (List Int) := flow ZdW (.b0 a0 a1 a2 a3)
noncomputable def Zrz : Mod U := ⟨[24, 23, 27, 27], 27, fun x => Z7h x.1 x.2.1 x.2.2.1 x.2.2.2.1, by decide⟩
noncomputable def ZqI : ZeE → Spot U
  | .b0 a0 a1 a2 a3 => entP Tryz.f145 [24, 23, 27, 27] (a0, a1, a2, a3, ())
theorem Zoj : BlkP 145 Tryz.f145 (mc Z0w (mc ZlE (mc Zls (mc ZpH msN)))) hsN AN 27 ZdW ZqI
  | .b0 _ _ _ _ => by kernel_rfl
theorem Zhm : FnOK Tryz.prog B0 145 Zrz := okP Zoj (fun x => .b0 x.1 x.2.1 x.2.2.1 x.2.2.2.1) (by kernel_rfl) Tryz.func145 (by kernel_rfl) (by kernel_rfl) (fun _ => rfl) (fun _ => rfl)
inductive Z3H where
  | b0 (a0 : Int) (a1 : Bool) (a2 : Za) (a3 : Int) (a4 : List Int)
noncomputable def Z3V : Z3H → Tr U ((List Int) ⊕ Z3H)
  | .b0 a0 a1 a2 a3 a4 => .bind 230 (Z4W a1 a2 a3) (fun (x1 : Int × (List Int)) => .bind 27 (Z7h a0 x1.1 x1.2 a4) (fun (x2 : List Int) => .leaf (.inl x2)))
noncomputable def Z3W (a0 : Int) (a1 : Bool) (a2 : Za) (a3 : Int) (a4 : List Int) : Option (List Int) := flow Z3V (.b0 a0 a1 a2 a3 a4)
noncomputable def ZeZ : Mod U := ⟨[24, 4, 64, 22, 27], 27, fun x => Z3W x.1 x.2.1 x.2.2.1 x.2.2.2.1 x.2.2.2.2.1, by decide⟩
noncomputable def Zda : Z3H → Spot U
  | .b0 a0 a1 a2 a3 a4 => entP Tryz.f64 [24, 4, 64, 22, 27] (a0, a1, a2, a3, a4, ())
theorem Zc3 : BlkP 64 Tryz.f64 (mc Zf4 (mc Zhm msN)) hsN AN 27 Z3V Zda
  | .b0 _ _ _ _ _ => by kernel_rfl
theorem Zdw : FnOK Tryz.prog B0 64 ZeZ := okP Zc3 (fun x => .b0 x.1 x.2.1 x.2.2.1 x.2.2.2.1 x.2.2.2.2.1) (by kernel_rfl) Tryz.func64 (by kernel_rfl) (by kernel_rfl) (fun _ => rfl) (fun _ => rfl)
inductive Z3x where
  | b0 (a0 : Z05) (a1 : Bool)
noncomputable def Z6l : Z3x → Tr U (Int ⊕ Z3x)
  | .b0 a0 a1 => .br a1 ( .leaf (.inl a0.Node.App)) ( .leaf (.inl a0.Node.Device))
noncomputable def Z3e (a0 : Z05) (a1 : Bool) : Option Int := flow Z6l (.b0 a0 a1)
noncomputable def Zci : Mod U := ⟨[97, 4], 24, fun x => Z3e x.1 x.2.1, by decide⟩
noncomputable def Zcd : Z3x → Spot U
  | .b0 a0 a1 => entP Tryz.f65 [97, 4] (a0, a1, ())
theorem Zak : BlkP 65 Tryz.f65 msN hsN AN 24 Z6l Zcd
  | .b0 _ _ => by kernel_rfl
theorem Zc9 : FnOK Tryz.prog B0 65 Zci := okP Zak (fun x => .b0 x.1 x.2.1) (by kernel_rfl) Tryz.func65 (by kernel_rfl) (by kernel_rfl) (fun _ => rfl) (fun _ => rfl)
inductive Z49 where
  | b0 (a0 : Int)
  | b1 (a0 : Int)
noncomputable def Z1t : Z49 → Tr U (Int ⊕ Z49)
  | .b0 a0 => .br (decide (a0 < (1 : Int))) ( .leaf (.inl (0 : Int))) ( .br (decide (a0 > (384 : Int))) ( .leaf (.inl (0 : Int))) ( .leaf (.inr (.b1 a0))))
  | .b1 a0 => .br (decide (a0 ≤ (15 : Int))) ( .leaf (.inl (1 : Int))) ( .leaf (.inl (w64 (Int.tdiv (w64 ((w64 (a0 + (12 : Int))) - (1 : Int))) (12 : Int)))))
noncomputable def Z3D (a0 : Int) : Option Int := flow Z1t (.b0 a0)
noncomputable def ZdY : Mod U := ⟨[3], 3, fun x => Z3D x.1, by decide⟩
def Z5Y : Lay := ⟨[0], [[.keep]], [], ⟨[.one (.v 3 1 false)], []⟩⟩
def ZeT : Nat → Option Lay
  | 3 => some Z5Y
  | _ => none
noncomputable def ZdB : Z49 → Spot U
  | .b0 a0 => entP Tryz.f228 [3] (a0, ())
  | .b1 a0 => spL Tryz.f228 [1, 0, 0, 1, 1, 0] Z5Y (((a0, ()), ()), ())
theorem Zb4 : BlkP 228 Tryz.f228 msN hsN ZeT 3 Z1t ZdB
  | .b0 _ => by kernel_rfl
  | .b1 _ => by kernel_rfl
theorem Zcv : FnOK Tryz.prog B0 228 ZdY := okP Zb4 (fun x => .b0 x.1) (by kernel_rfl) Tryz.func228 (by kernel_rfl) (by kernel_rfl) (fun _ => rfl) (fun _ => rfl)
inductive Z3o where
  | b0 (a0 : Z7) (a1 : Zt)
  | b1 (a0 : Int) (a1 : Z7) (a2 : Zt)
  | b2 (a0 : List Z6) (a1 a2 : Int) (a3 : Z7) (a4 : Zt)
noncomputable def ZJ : Z3o → Tr U (Int ⊕ Z3o)
  | .b0 a0 a1 => .bind 4 (Z1g a1.Src) (fun (x1 : Bool) => .br (!x1) ( .leaf (.inl (1 : Int))) ( .bind 4 (Z1g a1.Dst) (fun (x2 : Bool) => .br (!x2) ( .bind 4 (Z2C a1.Dst) (fun (x3 : Bool) => .br (!x3) ( .leaf (.inl (1 : Int))) ( .br ((↑a1.Bytes.length : Int) == (0 : Int)) ( .leaf (.inl (1 : Int))) ( .leaf (.inr (.b1 (↑a1.Bytes.length : Int) a0 a1)))))) ( .br ((↑a1.Bytes.length : Int) == (0 : Int)) ( .leaf (.inl (1 : Int))) ( .leaf (.inr (.b1 (↑a1.Bytes.length : Int) a0 a1)))))))
  | .b1 a0 a1 a2 => .br (decide (a0 > (384 : Int))) ( .leaf (.inl (4 : Int))) ( .bind 3 (Z3D a0) (fun (x1 : Int) => .br (decide ((IntKind.wrap .u64 ((IntKind.wrap .u64 ((IntKind.wrap .u64 (a2.Seq.Seq)) + (IntKind.wrap .u64 (x1)))) - (1 : Int))) > (16777215 : Int))) ( .leaf (.inl (5 : Int))) ( .br (decide (a0 ≤ (15 : Int))) ( .leaf (.inl (0 : Int))) ( .leaf (.inr (.b2 a1.Out (↑a1.Out.length : Int) (0 : Int) a1 a2))))))
  | .b2 a0 a1 a2 a3 a4 => .br (decide (a2 < a1)) ( .chk (decide (0 ≤ a2 ∧ a2 < (↑a0.length : Int))) ( .bind 101 (a0[(Int.toNat a2)]?) (fun (x1 : Z6) => .br (x1.Dst == a4.Dst) ( .leaf (.inl (20 : Int))) ( .leaf (.inr (.b2 a0 a1 (w64 (a2 + (1 : Int))) a3 a4)))))) ( .br (decide ((↑a3.Out.length : Int) ≥ (8 : Int))) ( .leaf (.inl (8 : Int))) ( .leaf (.inl (0 : Int))))
noncomputable def Z3q (a0 : Z7) (a1 : Zt) : Option Int := flow ZJ (.b0 a0 a1)
noncomputable def ZcN : Mod U := ⟨[42, 66], 51, fun x => Z3q x.1 x.2.1, by decide⟩
def Z52 : Lay := ⟨[2, 3, 5], [[.keep], [.keep], [.keep]], [.var [.s 101 10, .s 104 11], .var k2], ⟨[.one (.ptr 0), .one (.ptr 1), .one (.v 3 1 false)], [.var 42 2 (.agg [.v 42 2 true]), .var 66 8 (.agg [.v 66 8 true])]⟩⟩
def Z51 : Lay := ⟨[2, 3, 50, 51, 52], [[.keep], [.keep], [.s 101 10], [.keep], [.keep]], [.var [.s 101 10, .s 104 11], .var k2], ⟨[.one (.ptr 0), .one (.ptr 1), .one (.v 39 1 false), .one (.v 3 1 false), .one (.v 3 1 false)], [.var 42 2 (.agg [.v 42 2 true]), .var 66 8 (.agg [.v 66 8 true])]⟩⟩
def Zdd : Nat → Option Lay
  | 4 => some Z52
  | 11 => some Z51
  | _ => none
noncomputable def Zc5 : Z3o → Spot U
  | .b0 a0 a1 => entP Tryz.f146 [42, 66] (a0, a1, ())
  | .b1 a0 a1 a2 => spL Tryz.f146 [1, 1, 0, 0, 1, 1, 0] Z52 (((), ((), ((a0, ()), ()))), ((a1, ()), ((a2, ()), ())))
  | .b2 a0 a1 a2 a3 a4 => spL Tryz.f146 [1, 1, 1, 0, 1, 0, 0, 0] Z51 (((), ((), ((a0, ()), ((a1, ()), ((a2, ()), ()))))), ((a3, ()), ((a4, ()), ())))
theorem Zav : BlkP 146 Tryz.f146 (mc Z4e (mc Z5B (mc Zcv msN))) hsN Zdd 51 ZJ Zc5
  | .b0 _ _ => by kernel_rfl
  | .b1 _ _ _ => by kernel_rfl
  | .b2 _ _ _ _ _ => by kernel_rfl
theorem Zbm : FnOK Tryz.prog B0 146 ZcN := okP Zav (fun x => .b0 x.1 x.2.1) (by kernel_rfl) Tryz.func146 (by kernel_rfl) (by kernel_rfl) (fun _ => rfl) (fun _ => rfl)
inductive Z2P where
  | b0 (a0 : Z6) (a1 : Int)
noncomputable def Z2J : Z2P → Tr U (Z5 ⊕ Z2P)
  | .b0 a0 a1 => .chk (decide (0 ≤ a1 ∧ a1 < (↑a0.Parts.length : Int))) ( .bind 27 (a0.Parts[(Int.toNat a1)]?) (fun (x1 : List Int) => .chk (([x1]).length == 1) ( .bind 27 (Zy ([x1])) (fun (x2 : List Int) => .leaf (.inl (⟨false, true, a0.App, (w64 ((Int.tmod a0.Zero (8192 : Int)))), a1, (w64 ((↑a0.Parts.length : Int) - (1 : Int))), (0 : Int), (0 : Int), false, x2⟩ : Z5))))))
noncomputable def Z2H (a0 : Z6) (a1 : Int) : Option Z5 := flow Z2J (.b0 a0 a1)
noncomputable def ZbK : Mod U := ⟨[101, 3], 106, fun x => Z2H x.1 x.2.1, by decide⟩
noncomputable def Zao : Z2P → Spot U
  | .b0 a0 a1 => entP Tryz.f148 [101, 3] (a0, a1, ())
theorem Z9X : BlkP 148 Tryz.f148 (mc Z0w msN) hsN AN 106 Z2J Zao
  | .b0 _ _ => by kernel_rfl
theorem Zam : FnOK Tryz.prog B0 148 ZbK := okP Z9X (fun x => .b0 x.1 x.2.1) (by kernel_rfl) Tryz.func148 (by kernel_rfl) (by kernel_rfl) (fun _ => rfl) (fun _ => rfl)
inductive Z3P where
  | b0 (a0 : List (List Int))
  | b1 (a0 a1 : List (List Int)) (a2 a3 : Int)
noncomputable def Z0M : Z3P → Tr U ((List (List Int)) ⊕ Z3P)
  | .b0 a0 => .chk (decide (0 ≤ (↑a0.length : Int) ∧ (↑a0.length : Int) ≤ (↑a0.length : Int) ∧ Int.toNat (↑a0.length : Int) * 24 ≤ lim ∧ (↑a0.length : Int) ≤ (↑maxLen : Int))) ( .chk ((List.replicate (Int.toNat (↑a0.length : Int)) ([] : List Int)).length == (List.replicate (Int.toNat (↑a0.length : Int)) ([] : List Int)).length) ( .chk ((a0.take (List.replicate (Int.toNat (↑a0.length : Int)) ([] : List Int)).length ++ (List.replicate (Int.toNat (↑a0.length : Int)) ([] : List Int)).drop a0.length).length == (List.replicate (Int.toNat (↑a0.length : Int)) ([] : List Int)).length) ( .leaf (.inr (.b1 (a0.take (List.replicate (Int.toNat (↑a0.length : Int)) ([] : List Int)).length ++ (List.replicate (Int.toNat (↑a0.length : Int)) ([] : List Int)).drop a0.length) a0 (↑a0.length : Int) (0 : Int))))))
  | .b1 a0 a1 a2 a3 => .br (decide (a3 < a2)) ( .chk (decide (0 ≤ a3 ∧ a3 < (↑a1.length : Int))) ( .bind 27 (a1[(Int.toNat a3)]?) (fun (x1 : List Int) => .chk (([x1]).length == 1) ( .bind 27 (Zy ([x1])) (fun (x2 : List Int) => .chk (a0.length == a0.length) ( .chk (decide (0 ≤ a3 ∧ a3 < (↑a0.length : Int))) ( .chk (a0.length == a0.length && decide (0 ≤ (Int.toNat a3))) ( .bind 27 (a0[(Int.toNat a3)]?) (fun (x3 : List Int) => .chk ((a0.set (Int.toNat a3) x2).length == a0.length) ( .leaf (.inr (.b1 (a0.set (Int.toNat a3) x2) a1 a2 (w64 (a3 + (1 : Int))))))))))))))) ( .chk (a0.length == a0.length) ( .leaf (.inl a0)))
noncomputable def Z2l (a0 : List (List Int)) : Option (List (List Int)) := flow Z0M (.b0 a0)
noncomputable def Zef : Mod U := ⟨[73], 73, fun x => Z2l x.1, by decide⟩
def Z5H : Lay := ⟨[3, 12, 13, 14], [[.own 27 1], [.s 27 1], [.keep], [.keep]], [.row true], ⟨[.one (.own 27 0), .one (.v 73 1 false), .one (.v 3 1 false), .one (.v 3 1 false)], [.row 27 true]⟩⟩
def Zel : Nat → Option Lay
  | 4 => some Z5H
  | _ => none
noncomputable def Zcy : Z3P → Spot U
  | .b0 a0 => entP Tryz.f229 [73] (a0, ())
  | .b1 a0 a1 a2 a3 => spL Tryz.f229 [1, 1, 1, 0, 1, 0, 0, 0] Z5H (((), ((a1, ()), ((a2, ()), ((a3, ()), ())))), (a0, ()))
theorem Zc7 : BlkP 229 Tryz.f229 (mc Z0w msN) hsN Zel 73 Z0M Zcy
  | .b0 _ => by kernel_rfl
  | .b1 _ _ _ _ => by kernel_rfl
theorem Zd2 : FnOK Tryz.prog B0 229 Zef := okP Zc7 (fun x => .b0 x.1) (by kernel_rfl) Tryz.func229 (by kernel_rfl) (by kernel_rfl) (fun _ => rfl) (fun _ => rfl)
end Go.Proofs.YtefmbgacbhifdaaGreat
namespace Go.Proofs.YtefmbgacbhifdaaGreat
open Go Go.Proofs.YtefmbgacbhifdaaGreat.Le
set_option maxRecDepth 100000
inductive Z3Q where
  | b0 (a0 : Z7)
  | b1 (a0 a1 : Int) (a2 a3 : Z7)
  | b2 (a0 a1 : Int) (a2 a3 : Z7)
noncomputable def ZI : Z3Q → Tr U (Z0N ⊕ Z3Q)
  | .b0 a0 => .chk (decide (0 ≤ (↑a0.Out.length : Int) ∧ (↑a0.Out.length : Int) ≤ (↑a0.Out.length : Int) ∧ Int.toNat (↑a0.Out.length : Int) * 72 ≤ lim ∧ (↑a0.Out.length : Int) ≤ (↑maxLen : Int))) ( .chk (decide (0 ≤ (↑a0.In.length : Int) ∧ (↑a0.In.length : Int) ≤ (↑a0.In.length : Int) ∧ Int.toNat (↑a0.In.length : Int) * 80 ≤ lim ∧ (↑a0.In.length : Int) ≤ (↑maxLen : Int))) ( .chk ((List.replicate (Int.toNat (↑a0.Out.length : Int)) Z0g).length == (List.replicate (Int.toNat (↑a0.Out.length : Int)) Z0g).length) ( .chk ((List.replicate (Int.toNat (↑a0.In.length : Int)) Z1i).length == (List.replicate (Int.toNat (↑a0.In.length : Int)) Z1i).length) ( .chk ((a0.Out.take (List.replicate (Int.toNat (↑a0.Out.length : Int)) Z0g).length ++ (List.replicate (Int.toNat (↑a0.Out.length : Int)) Z0g).drop a0.Out.length).length == (List.replicate (Int.toNat (↑a0.Out.length : Int)) Z0g).length) ( .chk ((([] : List Z6).length == 0) && ((([] : List Z9).length == 0) && (((a0.Out.take (List.replicate (Int.toNat (↑a0.Out.length : Int)) Z0g).length ++ (List.replicate (Int.toNat (↑a0.Out.length : Int)) Z0g).drop a0.Out.length).length == (List.replicate (Int.toNat (↑a0.Out.length : Int)) Z0g).length) && ((a0.In.take (List.replicate (Int.toNat (↑a0.In.length : Int)) Z1i).length ++ (List.replicate (Int.toNat (↑a0.In.length : Int)) Z1i).drop a0.In.length).length == (List.replicate (Int.toNat (↑a0.In.length : Int)) Z1i).length)))) ( .leaf (.inr (.b1 (↑((List.replicate (Int.toNat (↑a0.Out.length : Int)) Z0g).length) : Int) (0 : Int) (⟨([] : List Z6), ([] : List Z9)⟩ : Z7) (⟨(a0.Out.take (List.replicate (Int.toNat (↑a0.Out.length : Int)) Z0g).length ++ (List.replicate (Int.toNat (↑a0.Out.length : Int)) Z0g).drop a0.Out.length), (a0.In.take (List.replicate (Int.toNat (↑a0.In.length : Int)) Z1i).length ++ (List.replicate (Int.toNat (↑a0.In.length : Int)) Z1i).drop a0.In.length)⟩ : Z7)))))))))
  | .b1 a0 a1 a2 a3 => .br (decide (a1 < a0)) ( .chk (a3.Out.length == a3.Out.length) ( .chk (decide (0 ≤ a1 ∧ a1 < (↑a3.Out.length : Int))) ( .chk (a3.Out.length == a3.Out.length) ( .bind 101 (a3.Out[(Int.toNat a1)]?) (fun (x1 : Z6) => .bind 73 (Z2l x1.Parts) (fun (x2 : List (List Int)) => .chk (a3.Out.length == a3.Out.length) ( .chk (decide (0 ≤ a1 ∧ a1 < (↑a3.Out.length : Int))) ( .chk (a3.Out.length == a3.Out.length && decide (0 ≤ (Int.toNat a1))) ( .bind 101 (a3.Out[(Int.toNat a1)]?) (fun (x3 : Z6) => .chk ((a2.Out.length == a2.Out.length) && ((a2.In.length == a2.In.length) && (((a3.Out.set (Int.toNat a1) ({ x3 with Parts := x2 } : Z6)).length == a3.Out.length) && (a3.In.length == a3.In.length)))) ( .leaf (.inr (.b1 a0 (w64 (a1 + (1 : Int))) a2 (⟨(a3.Out.set (Int.toNat a1) ({ x3 with Parts := x2 } : Z6)), a3.In⟩ : Z7)))))))))))))) ( .chk (a3.In.length == a3.In.length) ( .chk ((a2.Out.length == a2.Out.length) && ((a2.In.length == a2.In.length) && ((a3.Out.length == a3.Out.length) && (a3.In.length == a3.In.length)))) ( .leaf (.inr (.b2 (↑a3.In.length : Int) (0 : Int) a2 a3)))))
  | .b2 a0 a1 a2 a3 => .br (decide (a1 < a0)) ( .chk (a3.In.length == a3.In.length) ( .chk (decide (0 ≤ a1 ∧ a1 < (↑a3.In.length : Int))) ( .chk (a3.In.length == a3.In.length) ( .bind 104 (a3.In[(Int.toNat a1)]?) (fun (x1 : Z9) => .bind 73 (Z2l x1.Parts) (fun (x2 : List (List Int)) => .chk (a3.In.length == a3.In.length) ( .chk (decide (0 ≤ a1 ∧ a1 < (↑a3.In.length : Int))) ( .chk (a3.In.length == a3.In.length && decide (0 ≤ (Int.toNat a1))) ( .bind 104 (a3.In[(Int.toNat a1)]?) (fun (x3 : Z9) => .chk ((a2.Out.length == a2.Out.length) && ((a2.In.length == a2.In.length) && ((a3.Out.length == a3.Out.length) && ((a3.In.set (Int.toNat a1) ({ x3 with Parts := x2 } : Z9)).length == a3.In.length)))) ( .leaf (.inr (.b2 a0 (w64 (a1 + (1 : Int))) a2 (⟨a3.Out, (a3.In.set (Int.toNat a1) ({ x3 with Parts := x2 } : Z9))⟩ : Z7)))))))))))))) ( .chk ((a3.Out.length == a3.Out.length) && (a3.In.length == a3.In.length)) ( .leaf (.inl (⟨a3⟩ : Z0N))))
noncomputable def Z45 (a0 : Z7) : Option Z0N := flow ZI (.b0 a0)
def Z5D : Shape := ⟨[.agg [.v 42 2 true]], []⟩
noncomputable def Z75 : HMod U := ⟨[[.s 101 10, .s 104 11]], [], Z5D, ⟨[.agg [.own 101 0, .own 104 1]], [.row 101 true, .row 104 true]⟩, true, 1385, fun (y : Z0N) => (((), ()), (y.q0.Out, (y.q0.In, ()))), fun x => Z45 x.1.1.1, ⟨⟨⟨⟨by decide, fun _ => ⟨_, rfl, rfl⟩⟩, trivial⟩, trivial⟩, trivial⟩⟩
def Z5J : Lay := ⟨[2, 3, 27, 28], [[.keep], [.keep], [.keep], [.keep]], [.var [.own 101 10, .own 104 11], .var [.own 101 10, .own 104 11], .row true, .row true, .row true, .row true], ⟨[.one (.ptr 0), .one (.ptr 1), .one (.v 3 1 false), .one (.v 3 1 false)], [.var 42 2 (.agg [.own 101 2, .own 104 3]), .var 42 2 (.agg [.own 101 4, .own 104 5]), .row 101 true, .row 104 true, .row 101 true, .row 104 true]⟩⟩
def Z63 : Lay := ⟨[2, 3, 46, 47], [[.keep], [.keep], [.keep], [.keep]], [.var [.own 101 10, .own 104 11], .var [.own 101 10, .own 104 11], .row true, .row true, .row true, .row true], ⟨[.one (.ptr 0), .one (.ptr 1), .one (.v 3 1 false), .one (.v 3 1 false)], [.var 42 2 (.agg [.own 101 2, .own 104 3]), .var 42 2 (.agg [.own 101 4, .own 104 5]), .row 101 true, .row 104 true, .row 101 true, .row 104 true]⟩⟩
def Zex : Nat → Option Lay
  | 5 => some Z5J
  | 10 => some Z63
  | _ => none
noncomputable def ZcG : Z3Q → Spot U
  | .b0 a0 => entH Tryz.f147 Z5D (((a0, ()), ()), ())
  | .b1 a0 a1 a2 a3 => spL Tryz.f147 [1, 1, 1, 1, 0, 1, 0, 0, 0] Z5J (((), ((), ((a0, ()), ((a1, ()), ())))), ((), ((), (a2.Out, (a2.In, (a3.Out, (a3.In, ())))))))
  | .b2 a0 a1 a2 a3 => spL Tryz.f147 [1, 1, 1, 1, 1, 0, 1, 0, 0, 0] Z63 (((), ((), ((a0, ()), ((a1, ()), ())))), ((), ((), (a2.Out, (a2.In, (a3.Out, (a3.In, ())))))))
theorem Zbw : BlkH 147 Tryz.f147 (mc Zd2 msN) hsN Zex [[.own 101 10, .own 104 11]] [.row true, .row true] 0 Z75 ZI ZcG
  | .b0 _ => by kernel_rfl
  | .b1 _ _ _ _ => by kernel_rfl
  | .b2 _ _ _ _ => by kernel_rfl
theorem ZcT : HFnOK Tryz.prog B0 147 Z75 := okH Zbw (fun x => .b0 x.1.1.1) (fun x => by kernel_rfl) (by kernel_rfl) Tryz.func147 (by kernel_rfl) (by kernel_rfl) (fun x => by kernel_rfl) (fun x => by kernel_rfl)
inductive Z4U where
  | b0 (a0 : Z7) (a1 : Zt) (a2 : Int)
  | b1 (a0 : List Int) (a1 a2 : Z7) (a3 : Z6)
  | b2 (a0 : List Z5) (a1 a2 : Int) (a3 a4 : Z7) (a5 : Z6)
noncomputable def ZO : Z4U → Tr U ((Z7 × (List Z5) × Int) ⊕ Z4U)
  | .b0 a0 a1 a2 => .bind 51 (Z3q a0 a1) (fun (x1 : Int) => .bind 1385 (Z45 a0) (fun (y2 : Z0N) => .br (x1 != (0 : Int)) ( .chk (y2.q0.Out.length == y2.q0.Out.length) ( .chk (y2.q0.In.length == y2.q0.In.length) ( .chk (([] : List Z5).length == 0) ( .leaf (.inl (y2.q0, ([] : List Z5), x1)))))) ( .br (decide ((↑a1.Bytes.length : Int) ≤ (15 : Int))) ( .chk (([a1.Bytes]).length == 1) ( .bind 27 (Zy ([a1.Bytes])) (fun (x3 : List Int) => .chk (y2.q0.Out.length == y2.q0.Out.length) ( .chk (y2.q0.In.length == y2.q0.In.length) ( .chk (([(⟨false, false, a1.App, (0 : Int), (0 : Int), (0 : Int), (0 : Int), (0 : Int), false, x3⟩ : Z5)]).length == 1) ( .leaf (.inl (y2.q0, [(⟨false, false, a1.App, (0 : Int), (0 : Int), (0 : Int), (0 : Int), (0 : Int), false, x3⟩ : Z5)], (0 : Int))))))))) ( .chk ((y2.q0.Out.length == y2.q0.Out.length) && ((y2.q0.In.length == y2.q0.In.length) && ((([] : List Z6).length == 0) && ((([] : List Z9).length == 0) && (([] : List (List Int)).length == 0))))) ( .leaf (.inr (.b1 a1.Bytes y2.q0 (⟨([] : List Z6), ([] : List Z9)⟩ : Z7) (⟨a1.Dst, a1.Src, a1.App, a1.Seq.Seq, a1.Seq.IV, ([] : List (List Int)), (0 : Int), (w64 (a2 + (20 : Int))), (1 : Int), a1.TTL⟩ : Z6))))))))
  | .b1 a0 a1 a2 a3 => .br (decide ((↑a0.length : Int) > (0 : Int))) ( .chk (decide (0 ≤ (if (↑a0.length : Int) < (12 : Int) then (↑a0.length : Int) else (12 : Int)) ∧ (if (↑a0.length : Int) < (12 : Int) then (↑a0.length : Int) else (12 : Int)) ≤ (↑a0.length : Int))) ( .chk (([((a0.drop 0).take ((Int.toNat (if (↑a0.length : Int) < (12 : Int) then (↑a0.length : Int) else (12 : Int))) - 0))]).length == 1) ( .bind 27 (Zy ([((a0.drop 0).take ((Int.toNat (if (↑a0.length : Int) < (12 : Int) then (↑a0.length : Int) else (12 : Int))) - 0))])) (fun (x1 : List Int) => .chk (([x1]).length == 1) ( .chk (a3.Parts.length == a3.Parts.length) ( .chk (decide ((a3.Parts.length + ([x1]).length) * 24 ≤ lim) && decide (a3.Parts.length + ([x1]).length ≤ maxLen)) ( .chk (decide (0 ≤ (if (↑a0.length : Int) < (12 : Int) then (↑a0.length : Int) else (12 : Int)) ∧ (if (↑a0.length : Int) < (12 : Int) then (↑a0.length : Int) else (12 : Int)) ≤ (↑a0.length : Int))) ( .chk ((a1.Out.length == a1.Out.length) && ((a1.In.length == a1.In.length) && ((a2.Out.length == a2.Out.length) && ((a2.In.length == a2.In.length) && ((a3.Parts ++ [x1]).length == (a3.Parts ++ [x1]).length))))) ( .leaf (.inr (.b1 ((a0.drop (Int.toNat (if (↑a0.length : Int) < (12 : Int) then (↑a0.length : Int) else (12 : Int)))).take (a0.length - (Int.toNat (if (↑a0.length : Int) < (12 : Int) then (↑a0.length : Int) else (12 : Int))))) a1 a2 ({ a3 with Parts := (a3.Parts ++ [x1]) } : Z6)))))))))))) ( .chk (a3.Parts.length == a3.Parts.length) ( .chk ((([] : List Z5).length == 0) && ((a1.Out.length == a1.Out.length) && ((a1.In.length == a1.In.length) && ((a2.Out.length == a2.Out.length) && ((a2.In.length == a2.In.length) && ((a3.Parts.length == a3.Parts.length) && (a3.Parts.length == a3.Parts.length))))))) ( .leaf (.inr (.b2 ([] : List Z5) (↑a3.Parts.length : Int) (0 : Int) a1 a2 a3)))))
  | .b2 a0 a1 a2 a3 a4 a5 => .br (decide (a2 < a1)) ( .chk (a5.Parts.length == a5.Parts.length) ( .bind 106 (Z2H a5 a2) (fun (x1 : Z5) => .chk (([x1]).length == 1) ( .chk (a0.length == a0.length) ( .chk (decide ((a0.length + ([x1]).length) * 72 ≤ lim) && decide (a0.length + ([x1]).length ≤ maxLen)) ( .chk (((a0 ++ [x1]).length == (a0 ++ [x1]).length) && ((a3.Out.length == a3.Out.length) && ((a3.In.length == a3.In.length) && ((a4.Out.length == a4.Out.length) && ((a4.In.length == a4.In.length) && ((a5.Parts.length == a5.Parts.length) && (a5.Parts.length == a5.Parts.length))))))) ( .leaf (.inr (.b2 (a0 ++ [x1]) a1 (w64 (a2 + (1 : Int))) a3 a4 a5))))))))) ( .chk (a5.Parts.length == a5.Parts.length) ( .chk (([a5]).length == 1) ( .chk (a3.Out.length == a3.Out.length) ( .chk (decide ((a3.Out.length + ([a5]).length) * 72 ≤ lim) && decide (a3.Out.length + ([a5]).length ≤ maxLen)) ( .chk ((a3.Out ++ [a5]).length == (a3.Out ++ [a5]).length) ( .chk (a3.In.length == a3.In.length) ( .chk (a0.length == a0.length) ( .leaf (.inl ((⟨(a3.Out ++ [a5]), a3.In⟩ : Z7), a0, (0 : Int)))))))))))
noncomputable def Z4J (a0 : Z7) (a1 : Zt) (a2 : Int) : Option (Z7 × (List Z5) × Int) := flow ZO (.b0 a0 a1 a2)
noncomputable def Zgl : Mod U := ⟨[42, 66, 3], 113, fun x => Z4J x.1 x.2.1 x.2.2.1, by decide⟩
def Z6j : Lay := ⟨[3, 6, 10, 11], [[.keep], [.keep], [.keep], [.s 5 1]], [.var [.own 101 10, .own 104 11], .var [.own 101 10, .own 104 11], .var k8, .row true, .row true, .row true, .row true, .row true], ⟨[.one (.ptr 0), .one (.ptr 1), .one (.ptr 2), .one (.v 27 1 false)], [.var 42 2 (.agg [.own 101 3, .own 104 4]), .var 42 2 (.agg [.own 101 5, .own 104 6]), .var 101 10 (.agg [.v 22 1 false, .v 22 1 false, .v 4 1 false, .v 33 1 false, .v 33 1 false, .own 27 7, .v 33 1 false, .v 3 1 false, .v 3 1 false, .v 3 1 false]), .row 101 true, .row 104 true, .row 101 true, .row 104 true, .row 27 true]⟩⟩
def Z6i : Lay := ⟨[3, 6, 10, 12, 77, 78], [[.keep], [.keep], [.keep], [.own 106 10], [.keep], [.keep]], [.var [.own 101 10, .own 104 11], .var [.own 101 10, .own 104 11], .var k8, .row true, .row true, .row true, .row true, .row true, .row false], ⟨[.one (.ptr 0), .one (.ptr 1), .one (.ptr 2), .one (.own 106 3), .one (.v 3 1 false), .one (.v 3 1 false)], [.var 42 2 (.agg [.own 101 4, .own 104 5]), .var 42 2 (.agg [.own 101 6, .own 104 7]), .var 101 10 (.agg [.v 22 1 false, .v 22 1 false, .v 4 1 false, .v 33 1 false, .v 33 1 false, .own 27 8, .v 33 1 false, .v 3 1 false, .v 3 1 false, .v 3 1 false]), .row 106 true, .row 101 true, .row 104 true, .row 101 true, .row 104 true, .row 27 false]⟩⟩
def Zgw : Nat → Option Lay
  | 9 => some Z6j
  | 14 => some Z6i
  | _ => none
noncomputable def Zen : Z4U → Spot U
  | .b0 a0 a1 a2 => entP Tryz.f66 [42, 66, 3] (a0, a1, a2, ())
  | .b1 a0 a1 a2 a3 => spL Tryz.f66 [1, 1, 1, 1, 1, 1, 0, 1, 0, 0, 0, 0] Z6j (((), ((), ((), ((a0, ()), ())))), ((), ((), ((a3.Dst, (a3.Src, (a3.App, (a3.Zero, (a3.IV, (a3.Acked, (a3.Due, (a3.Tries, (a3.TTL, ()))))))))), (a1.Out, (a1.In, (a2.Out, (a2.In, (a3.Parts, ())))))))))
  | .b2 a0 a1 a2 a3 a4 a5 => spL Tryz.f66 [1, 1, 1, 1, 1, 1, 1, 1, 0, 1, 0, 0, 0] Z6i (((), ((), ((), ((), ((a1, ()), ((a2, ()), ())))))), ((), ((), ((a5.Dst, (a5.Src, (a5.App, (a5.Zero, (a5.IV, (a5.Acked, (a5.Due, (a5.Tries, (a5.TTL, ()))))))))), (a0, (a3.Out, (a3.In, (a4.Out, (a4.In, (a5.Parts, ()))))))))))
theorem Zds : BlkP 66 Tryz.f66 (mc Z0w (mc Zbm (mc Zam msN))) (hc [] ZcT hsN) Zgw 113 ZO Zen
  | .b0 _ _ _ => by kernel_rfl
  | .b1 _ _ _ _ => by kernel_rfl
  | .b2 _ _ _ _ _ _ => by kernel_rfl
theorem Ze5 : FnOK Tryz.prog B0 66 Zgl := okP Zds (fun x => .b0 x.1 x.2.1 x.2.2.1) (by kernel_rfl) Tryz.func66 (by kernel_rfl) (by kernel_rfl) (fun _ => rfl) (fun _ => rfl)
inductive Z2G where
  | b0 (a0 : ZK)
noncomputable def Z2I : Z2G → Tr U ((List Zd) ⊕ Z2G)
  | .b0 a0 => .br (a0.Phase == (1 : Int)) ( .chk (([a0.Old, a0.New]).length == 2) ( .leaf (.inl ([a0.Old, a0.New])))) ( .br (a0.Phase == (2 : Int)) ( .chk (([a0.New, a0.Old]).length == 2) ( .leaf (.inl ([a0.New, a0.Old])))) ( .chk (([a0.Old]).length == 1) ( .leaf (.inl ([a0.Old])))))
noncomputable def Z2V (a0 : ZK) : Option (List Zd) := flow Z2I (.b0 a0)
noncomputable def Zby : Mod U := ⟨[32], 135, fun x => Z2V x.1, by decide⟩
noncomputable def Zat : Z2G → Spot U
  | .b0 a0 => entP Tryz.f89 [32] (a0, ())
theorem Z9G : BlkP 89 Tryz.f89 msN hsN AN 135 Z2I Zat
  | .b0 _ => by kernel_rfl
theorem Zaw : FnOK Tryz.prog B0 89 Zby := okP Z9G (fun x => .b0 x.1) (by kernel_rfl) Tryz.func89 (by kernel_rfl) (by kernel_rfl) (fun _ => rfl) (fun _ => rfl)
inductive Z4a where
  | b0 (a0 : ZK)
noncomputable def Z3Z : Z4a → Tr U (Zd ⊕ Z4a)
  | .b0 a0 => .bind 135 (Z2V a0) (fun (x1 : List Zd) => .chk (decide (0 ≤ (0 : Int) ∧ (0 : Int) < (↑x1.length : Int))) ( .bind 30 (x1[(Int.toNat (0 : Int))]?) (fun (x2 : Zd) => .leaf (.inl x2))))
noncomputable def Z3M (a0 : ZK) : Option Zd := flow Z3Z (.b0 a0)
noncomputable def Zev : Mod U := ⟨[32], 30, fun x => Z3M x.1, by decide⟩
noncomputable def ZcP : Z4a → Spot U
  | .b0 a0 => entP Tryz.f151 [32] (a0, ())
theorem Zbb : BlkP 151 Tryz.f151 (mc Zaw msN) hsN AN 30 Z3Z ZcP
  | .b0 _ => by kernel_rfl
theorem Zdy : FnOK Tryz.prog B0 151 Zev := okP Zbb (fun x => .b0 x.1) (by kernel_rfl) Tryz.func151 (by kernel_rfl) (by kernel_rfl) (fun _ => rfl) (fun _ => rfl)
inductive Z21 where
  | b0 (a0 : Z05)
noncomputable def Z22 : Z21 → Tr U (Zd ⊕ Z21)
  | .b0 a0 => .bind 30 (Z3M a0.Node.Keys) (fun (x1 : Zd) => .leaf (.inl x1))
noncomputable def Z23 (a0 : Z05) : Option Zd := flow Z22 (.b0 a0)
noncomputable def Z8U : Mod U := ⟨[97], 30, fun x => Z23 x.1, by decide⟩
noncomputable def Z7K : Z21 → Spot U
  | .b0 a0 => entP Tryz.f68 [97] (a0, ())
theorem Z7x : BlkP 68 Tryz.f68 (mc Zdy msN) hsN AN 30 Z22 Z7K
  | .b0 _ => by kernel_rfl
theorem Z8B : FnOK Tryz.prog B0 68 Z8U := okP Z7x (fun x => .b0 x.1) (by kernel_rfl) Tryz.func68 (by kernel_rfl) (by kernel_rfl) (fun _ => rfl) (fun _ => rfl)
inductive Z41 where
  | b0 (a0 : Z5)
noncomputable def Z3O : Z41 → Tr U (Bool ⊕ Z41)
  | .b0 a0 => .br a0.Control ( .leaf (.inl (a0.Opcode == (0 : Int)))) ( .leaf (.inl false))
noncomputable def Z2q (a0 : Z5) : Option Bool := flow Z3O (.b0 a0)
noncomputable def Zek : Mod U := ⟨[106], 4, fun x => Z2q x.1, by decide⟩
noncomputable def ZdJ : Z41 → Spot U
  | .b0 a0 => entP Tryz.f230 [106] (a0, ())
theorem Zbe : BlkP 230 Tryz.f230 msN hsN AN 4 Z3O ZdJ
  | .b0 _ => by kernel_rfl
theorem Z6u : FnOK Tryz.prog B0 230 Zek := okP Zbe (fun x => .b0 x.1) (by kernel_rfl) Tryz.func230 (by kernel_rfl) (by kernel_rfl) (fun _ => rfl) (fun _ => rfl)
inductive Z4N where
  | b0 (a0 : Z5)
noncomputable def Z4H : Z4N → Tr U (Bool ⊕ Z4N)
  | .b0 a0 => .bind 4 (Z2q a0) (fun (x1 : Bool) => .br x1 ( .br (!a0.Segmented) ( .br (!a0.App) ( .br (a0.Index == (0 : Int)) ( .br (a0.Last == (0 : Int)) ( .leaf (.inl ((↑a0.Bytes.length : Int) == (0 : Int)))) ( .leaf (.inl false))) ( .leaf (.inl false))) ( .leaf (.inl false))) ( .leaf (.inl false))) ( .br a0.Control ( .br (!a0.Segmented) ( .br (!a0.App) ( .br (a0.Zero == (0 : Int)) ( .br (a0.Index == (0 : Int)) ( .br (a0.Last == (0 : Int)) ( .br (a0.Block == (0 : Int)) ( .leaf (.inl (!a0.Friend))) ( .leaf (.inl false))) ( .leaf (.inl false))) ( .leaf (.inl false))) ( .leaf (.inl false))) ( .leaf (.inl false))) ( .leaf (.inl false))) ( .br a0.Segmented ( .br (a0.Opcode == (0 : Int)) ( .br (a0.Block == (0 : Int)) ( .leaf (.inl (!a0.Friend))) ( .leaf (.inl false))) ( .leaf (.inl false))) ( .br (a0.Opcode == (0 : Int)) ( .br (a0.Zero == (0 : Int)) ( .br (a0.Index == (0 : Int)) ( .br (a0.Last == (0 : Int)) ( .br (a0.Block == (0 : Int)) ( .leaf (.inl (!a0.Friend))) ( .leaf (.inl false))) ( .leaf (.inl false))) ( .leaf (.inl false))) ( .leaf (.inl false))) ( .leaf (.inl false))))))
noncomputable def Z4S (a0 : Z5) : Option Bool := flow Z4H (.b0 a0)
noncomputable def Zg3 : Mod U := ⟨[106], 4, fun x => Z4S x.1, by decide⟩
noncomputable def ZdO : Z4N → Spot U
  | .b0 a0 => entP Tryz.f245 [106] (a0, ())
theorem Zd9 : BlkP 245 Tryz.f245 (mc Z6u msN) hsN AN 4 Z4H ZdO
  | .b0 _ => by kernel_rfl
theorem Zee : FnOK Tryz.prog B0 245 Zg3 := okP Zd9 (fun x => .b0 x.1) (by kernel_rfl) Tryz.func245 (by kernel_rfl) (by kernel_rfl) (fun _ => rfl) (fun _ => rfl)
inductive Z46 where
  | b0 (a0 : Z5)
  | b1 (a0 a1 : Int) (a2 : Z5)
  | b2 (a0 a1 : Int) (a2 : Z5)
  | b3 (a0 a1 : Int) (a2 : Z5)
noncomputable def Z0b : Z46 → Tr U (Int ⊕ Z46)
  | .b0 a0 => .br a0.Control ( .leaf (.inr (.b1 (0 : Int) (15 : Int) a0))) ( .br a0.Segmented ( .br (decide (a0.Index < a0.Last)) ( .leaf (.inr (.b1 (12 : Int) (12 : Int) a0))) ( .leaf (.inr (.b1 (1 : Int) (12 : Int) a0)))) ( .leaf (.inr (.b1 (1 : Int) (15 : Int) a0))))
  | .b1 a0 a1 a2 => .br a2.Control ( .br (decide (a2.Opcode < (0 : Int))) ( .leaf (.inl (12 : Int))) ( .br (decide (a2.Opcode ≥ (9 : Int))) ( .leaf (.inl (12 : Int))) ( .leaf (.inr (.b2 a0 a1 a2))))) ( .leaf (.inr (.b2 a0 a1 a2)))
  | .b2 a0 a1 a2 => .bind 4 (Z4S a2) (fun (x1 : Bool) => .br (!x1) ( .leaf (.inl (1 : Int))) ( .br (decide (a2.Zero < (0 : Int))) ( .leaf (.inl (5 : Int))) ( .br (decide (a2.Zero ≥ (8192 : Int))) ( .leaf (.inl (5 : Int))) ( .br (decide (a2.Last < (0 : Int))) ( .leaf (.inl (5 : Int))) ( .br (decide (a2.Last ≥ (32 : Int))) ( .leaf (.inl (5 : Int))) ( .br (decide (a2.Index < (0 : Int))) ( .leaf (.inl (5 : Int))) ( .br (decide (a2.Index > a2.Last)) ( .leaf (.inl (5 : Int))) ( .leaf (.inr (.b3 a0 a1 a2))))))))))
  | .b3 a0 a1 a2 => .br (decide ((↑a2.Bytes.length : Int) < a0)) ( .leaf (.inl (1 : Int))) ( .br (decide ((↑a2.Bytes.length : Int) > a1)) ( .leaf (.inl (4 : Int))) ( .leaf (.inl (0 : Int))))
noncomputable def Z3N (a0 : Z5) : Option Int := flow Z0b (.b0 a0)
noncomputable def Ze2 : Mod U := ⟨[106], 51, fun x => Z3N x.1, by decide⟩
def Z5Q : Lay := ⟨[1, 3, 4], [[.keep], [.keep], [.keep]], [.var k1], ⟨[.one (.ptr 0), .one (.v 3 1 false), .one (.v 3 1 false)], [.var 106 10 (.agg [.v 106 10 true])]⟩⟩
def Z5E : Lay := ⟨[1, 3, 4], [[.keep], [.keep], [.keep]], [.var k1], ⟨[.one (.ptr 0), .one (.v 3 1 false), .one (.v 3 1 false)], [.var 106 10 (.agg [.v 106 10 true])]⟩⟩
def Z5w : Lay := ⟨[1, 3, 4], [[.keep], [.keep], [.keep]], [.var k1], ⟨[.one (.ptr 0), .one (.v 3 1 false), .one (.v 3 1 false)], [.var 106 10 (.agg [.v 106 10 true])]⟩⟩
def ZeP : Nat → Option Lay
  | 8 => some Z5Q
  | 10 => some Z5E
  | 14 => some Z5w
  | _ => none
noncomputable def ZcY : Z46 → Spot U
  | .b0 a0 => entP Tryz.f172 [106] (a0, ())
  | .b1 a0 a1 a2 => spL Tryz.f172 [1, 1, 1, 0, 0, 0] Z5Q (((), ((a0, ()), ((a1, ()), ()))), ((a2, ()), ()))
  | .b2 a0 a1 a2 => spL Tryz.f172 [1, 1, 1, 0, 0, 1, 1, 0] Z5E (((), ((a0, ()), ((a1, ()), ()))), ((a2, ()), ()))
  | .b3 a0 a1 a2 => spL Tryz.f172 [1, 1, 1, 0, 0, 1, 1, 1, 1, 1, 1, 0] Z5w (((), ((a0, ()), ((a1, ()), ()))), ((a2, ()), ()))
theorem Zba : BlkP 172 Tryz.f172 (mc Zee msN) hsN ZeP 51 Z0b ZcY
  | .b0 _ => by kernel_rfl
  | .b1 _ _ _ => by kernel_rfl
  | .b2 _ _ _ => by kernel_rfl
  | .b3 _ _ _ => by kernel_rfl
theorem ZcQ : FnOK Tryz.prog B0 172 Ze2 := okP Zba (fun x => .b0 x.1) (by kernel_rfl) Tryz.func172 (by kernel_rfl) (by kernel_rfl) (fun _ => rfl) (fun _ => rfl)
inductive Z4X where
  | b0 (a0 : Bool) (a1 : Int)
noncomputable def Z8F : Z4X → Tr U (Int ⊕ Z4X)
  | .b0 a0 a1 => .br a0 ( .leaf (.inl a1)) ( .leaf (.inl (0 : Int)))
noncomputable def Z1P (a0 : Bool) (a1 : Int) : Option Int := flow Z8F (.b0 a0 a1)
noncomputable def Zge : Mod U := ⟨[4, 23], 23, fun x => Z1P x.1 x.2.1, by decide⟩
noncomputable def ZdS : Z4X → Spot U
  | .b0 a0 a1 => entP Tryz.f231 [4, 23] (a0, a1, ())
theorem Zcp : BlkP 231 Tryz.f231 msN hsN AN 23 Z8F ZdS
  | .b0 _ _ => by kernel_rfl
theorem ZeV : FnOK Tryz.prog B0 231 Zge := okP Zcp (fun x => .b0 x.1 x.2.1) (by kernel_rfl) Tryz.func231 (by kernel_rfl) (by kernel_rfl) (fun _ => rfl) (fun _ => rfl)
inductive Z3y where
  | b0 (a0 : Z5)
  | b1 (a0 : List Zf) (a1 : Z5)
noncomputable def Z19 : Z3y → Tr U (((List Int) × Int) ⊕ Z3y)
  | .b0 a0 => .bind 51 (Z3N a0) (fun (x1 : Int) => .br (x1 != (0 : Int)) ( .chk (([] : List Int).length == 0) ( .leaf (.inl (([] : List Int), x1)))) ( .bind 4 (Z2q a0) (fun (x2 : Bool) => .br x2 ( .bind 23 (Z1P a0.Friend (8192 : Int)) (fun (x3 : Int) => .chk (([(⟨(1 : Int), (0 : Int)⟩ : Zf), (⟨(2 : Int), (IntKind.wrap .u64 ((IntKind.wrap .u64 (a0.Zero)) + x3))⟩ : Zf), (⟨(4 : Int), (IntKind.wrap .u64 (a0.Block))⟩ : Zf)]).length == 3) ( .leaf (.inr (.b1 ([(⟨(1 : Int), (0 : Int)⟩ : Zf), (⟨(2 : Int), (IntKind.wrap .u64 ((IntKind.wrap .u64 (a0.Zero)) + x3))⟩ : Zf), (⟨(4 : Int), (IntKind.wrap .u64 (a0.Block))⟩ : Zf)]) a0))))) ( .br a0.Control ( .chk (([(⟨(1 : Int), (IntKind.wrap .u64 (a0.Opcode))⟩ : Zf)]).length == 1) ( .leaf (.inr (.b1 ([(⟨(1 : Int), (IntKind.wrap .u64 (a0.Opcode))⟩ : Zf)]) a0)))) ( .br a0.Segmented ( .bind 23 (Z1P a0.App (64 : Int)) (fun (x4 : Int) => .chk (([(⟨(1 : Int), (IntKind.wrap .u64 ((128 : Int) + x4))⟩ : Zf), (⟨(3 : Int), (IntKind.wrap .u64 ((w64 ((w64 (a0.Zero + (w64 (a0.Index * (8192 : Int))))) + (w64 ((w64 (a0.Last * (8192 : Int))) * (32 : Int)))))))⟩ : Zf)]).length == 2) ( .leaf (.inr (.b1 ([(⟨(1 : Int), (IntKind.wrap .u64 ((128 : Int) + x4))⟩ : Zf), (⟨(3 : Int), (IntKind.wrap .u64 ((w64 ((w64 (a0.Zero + (w64 (a0.Index * (8192 : Int))))) + (w64 ((w64 (a0.Last * (8192 : Int))) * (32 : Int)))))))⟩ : Zf)]) a0))))) ( .bind 23 (Z1P a0.App (64 : Int)) (fun (x5 : Int) => .chk (([(⟨(1 : Int), x5⟩ : Zf)]).length == 1) ( .leaf (.inr (.b1 ([(⟨(1 : Int), x5⟩ : Zf)]) a0))))))))))
  | .b1 a0 a1 => .chk (a0.length == a0.length) ( .bind 205 (Z1I a0) (fun (x1 : (List Int) × Int) => .chk (([x1.1, a1.Bytes]).length == 2) ( .bind 27 (Zy ([x1.1, a1.Bytes])) (fun (x2 : List Int) => .leaf (.inl (x2, (0 : Int)))))))
noncomputable def Z3a (a0 : Z5) : Option ((List Int) × Int) := flow Z19 (.b0 a0)
noncomputable def ZcF : Mod U := ⟨[106], 205, fun x => Z3a x.1, by decide⟩
def Z50 : Lay := ⟨[1, 5], [[.keep], [.own 287 2]], [.var k1, .row true], ⟨[.one (.ptr 0), .one (.own 287 1)], [.var 106 10 (.agg [.v 106 10 true]), .row 287 true]⟩⟩
def Zcm : Nat → Option Lay
  | 12 => some Z50
  | _ => none
noncomputable def ZbW : Z3y → Spot U
  | .b0 a0 => entP Tryz.f150 [106] (a0, ())
  | .b1 a0 a1 => spL Tryz.f150 [1, 1, 1, 1, 0] Z50 (((), ((), ())), ((a1, ()), (a0, ())))
theorem Zau : BlkP 150 Tryz.f150 (mc Z0w (mc ZcQ (mc Z8h (mc Z6u (mc ZeV msN))))) hsN Zcm 205 Z19 ZbW
  | .b0 _ => by kernel_rfl
  | .b1 _ _ => by kernel_rfl
theorem Zbs : FnOK Tryz.prog B0 150 ZcF := okP Zau (fun x => .b0 x.1) (by kernel_rfl) Tryz.func150 (by kernel_rfl) (by kernel_rfl) (fun _ => rfl) (fun _ => rfl)
inductive Z1s where
  | b0 (a0 a1 : Zn)
  | b1 (a0 : Int) (a1 a2 a3 : Zn)
noncomputable def xorL (a0 : Int) (a1 a2 a3 : Zn) (v : Int) : Tr U (Zn ⊕ Z1s) :=
  .br (a0 == (0 : Int)) (.leaf (.inr (.b1 (w64 (a0 + (1 : Int))) ({ a1 with x0 := v } : Zn) a2 a3))) (
  .br (a0 == (1 : Int)) (.leaf (.inr (.b1 (w64 (a0 + (1 : Int))) ({ a1 with x1 := v } : Zn) a2 a3))) (
  .br (a0 == (2 : Int)) (.leaf (.inr (.b1 (w64 (a0 + (1 : Int))) ({ a1 with x2 := v } : Zn) a2 a3))) (
  .br (a0 == (3 : Int)) (.leaf (.inr (.b1 (w64 (a0 + (1 : Int))) ({ a1 with x3 := v } : Zn) a2 a3))) (
  .br (a0 == (4 : Int)) (.leaf (.inr (.b1 (w64 (a0 + (1 : Int))) ({ a1 with x4 := v } : Zn) a2 a3))) (
  .br (a0 == (5 : Int)) (.leaf (.inr (.b1 (w64 (a0 + (1 : Int))) ({ a1 with x5 := v } : Zn) a2 a3))) (
  .fail))))))
noncomputable def xorM (a0 : Int) (a1 a2 a3 : Zn) (u : Int) : Tr U (Zn ⊕ Z1s) :=
  .br (a0 == (0 : Int)) (xorL a0 a1 a2 a3 (bits .xor .u8 u a2.x0)) (
  .br (a0 == (1 : Int)) (xorL a0 a1 a2 a3 (bits .xor .u8 u a2.x1)) (
  .br (a0 == (2 : Int)) (xorL a0 a1 a2 a3 (bits .xor .u8 u a2.x2)) (
  .br (a0 == (3 : Int)) (xorL a0 a1 a2 a3 (bits .xor .u8 u a2.x3)) (
  .br (a0 == (4 : Int)) (xorL a0 a1 a2 a3 (bits .xor .u8 u a2.x4)) (
  .br (a0 == (5 : Int)) (xorL a0 a1 a2 a3 (bits .xor .u8 u a2.x5)) (
  .fail))))))
noncomputable def Z07 : Z1s → Tr U (Zn ⊕ Z1s)
  | .b0 a0 a1 => .leaf (.inr (.b1 (0 : Int) a0 a1 Z0h))
  | .b1 a0 a1 a2 a3 => .br (decide (a0 < (6 : Int))) ( .br (a0 == (0 : Int)) (xorM a0 a1 a2 a3 a1.x0) ( .br (a0 == (1 : Int)) (xorM a0 a1 a2 a3 a1.x1) ( .br (a0 == (2 : Int)) (xorM a0 a1 a2 a3 a1.x2) ( .br (a0 == (3 : Int)) (xorM a0 a1 a2 a3 a1.x3) ( .br (a0 == (4 : Int)) (xorM a0 a1 a2 a3 a1.x4) ( .br (a0 == (5 : Int)) (xorM a0 a1 a2 a3 a1.x5) ( .fail))))))) (.leaf (.inl a1))
noncomputable def Z3G (a0 a1 : Zn) : Option Zn := flow Z07 (.b0 a0 a1)
noncomputable def ZdU : Mod U := ⟨[296, 296], 296, fun x => Z3G x.1 x.2.1, by decide⟩
def Z5T : Lay := ⟨[2, 3, 4, 6], [[.keep], [.keep], [.keep], [.keep]], [.var k7, .var k7, .var k7], ⟨[.one (.ptr 0), .one (.ptr 1), .one (.ptr 2), .one (.v 3 1 false)], [.var 296 6 (.agg [.v 296 6 true]), .var 296 6 (.agg [.v 296 6 true]), .var 296 6 (.agg [.v 296 6 true])]⟩⟩
def Ze8 : Nat → Option Lay
  | 2 => some Z5T
  | _ => none
noncomputable def Zcg : Z1s → Spot U
  | .b0 a0 a1 => entP Tryz.f237 [296, 296] (a0, a1, ())
  | .b1 a0 a1 a2 a3 => spL Tryz.f237 [1, 0, 1, 0, 0, 0] Z5T (((), ((), ((), ((a0, ()), ())))), ((a1, ()), ((a2, ()), ((a3, ()), ()))))
theorem Zbn : BlkP 237 Tryz.f237 msN hsN Ze8 296 Z07 Zcg
  | .b0 _ _ => by kernel_rfl
  | .b1 _ _ _ _ => by kernel_rfl
theorem Zcr : FnOK Tryz.prog B0 237 ZdU := okP Zbn (fun x => .b0 x.1 x.2.1) (by kernel_rfl) Tryz.func237 (by kernel_rfl) (by kernel_rfl) (fun _ => rfl) (fun _ => rfl)
inductive Z8q where
  | b0 (a0 a1 : List Int)
  | b1 (a0 a1 : List Int) (a2 : Int) (a3 : List Int) (a4 a5 : Int)
  | b2 (a0 a1 a2 : List Int) (a3 a4 : Int)
  | b3 (a0 a1 : List Int) (a2 a3 : Int) (a4 : List Int) (a5 a6 a7 a8 : Int)
noncomputable def ZU : Z8q → Tr U (((List Int) × (List Int) × Int) ⊕ Z8q)
  | .b0 a0 a1 => .leaf (.inr (.b1 a0 a1 (0 : Int) a1 (↑a1.length : Int) (0 : Int)))
  | .b1 a0 a1 a2 a3 a4 a5 => .br (decide (a5 < a4)) ( .chk (decide (0 ≤ a5 ∧ a5 < (↑a3.length : Int))) ( .bind 3 (a3[(Int.toNat a5)]?) (fun (x1 : Int) => .bind 4 (Z4g x1) (fun (x2 : Bool) => .br (!x2) ( .chk (([] : List Int).length == 0) ( .chk (([] : List Int).length == 0) ( .leaf (.inl (([] : List Int), ([] : List Int), (5 : Int)))))) ( .leaf (.inr (.b1 a0 a1 (w64 (a2 + x1)) a3 a4 (w64 (a5 + (1 : Int)))))))))) ( .br (decide ((↑a0.length : Int) < a2)) ( .chk (([] : List Int).length == 0) ( .chk (([] : List Int).length == 0) ( .leaf (.inl (([] : List Int), ([] : List Int), (3 : Int)))))) ( .chk (([] : List Int).length == 0) ( .leaf (.inr (.b2 a0 ([] : List Int) a1 (↑a1.length : Int) (0 : Int))))))
  | .b2 a0 a1 a2 a3 a4 => .br (decide (a4 < a3)) ( .chk (decide (0 ≤ a4 ∧ a4 < (↑a2.length : Int))) ( .bind 3 (a2[(Int.toNat a4)]?) (fun (x1 : Int) => .chk (a1.length == a1.length) ( .leaf (.inr (.b3 a0 a1 x1 (0 : Int) a2 a3 a4 x1 (0 : Int))))))) ( .chk (([a0]).length == 1) ( .bind 27 (Zy ([a0])) (fun (x2 : List Int) => .chk (a1.length == a1.length) ( .leaf (.inl (a1, x2, (0 : Int)))))))
  | .b3 a0 a1 a2 a3 a4 a5 a6 a7 a8 => .br (decide (a8 < a7)) ( .chk (decide (0 ≤ a8 ∧ a8 < (↑a0.length : Int))) ( .bind 5 (a0[(Int.toNat a8)]?) (fun (x1 : Int) => .chk (decide (0 ≤ (w64 ((8 : Int) * a8)))) ( .chk (a1.length == a1.length) ( .leaf (.inr (.b3 a0 a1 a2 (bits .or .u64 a3 (IntKind.wrap .u64 ((IntKind.wrap .u64 (x1)) * 2 ^ (min (Int.toNat (w64 ((8 : Int) * a8))) (IntKind.bits .u64))))) a4 a5 a6 a7 (w64 (a8 + (1 : Int)))))))))) ( .chk (([a3]).length == 1) ( .chk (a1.length == a1.length) ( .chk (decide ((a1.length + ([a3]).length) * 8 ≤ lim) && decide (a1.length + ([a3]).length ≤ maxLen)) ( .chk (decide (0 ≤ a2 ∧ a2 ≤ (↑a0.length : Int))) ( .chk ((a1 ++ [a3]).length == (a1 ++ [a3]).length) ( .leaf (.inr (.b2 ((a0.drop (Int.toNat a2)).take (a0.length - (Int.toNat a2))) (a1 ++ [a3]) a4 a5 (w64 (a6 + (1 : Int)))))))))))
noncomputable def Z5c (a0 a1 : List Int) : Option ((List Int) × (List Int) × Int) := flow ZU (.b0 a0 a1)
noncomputable def ZlY : Mod U := ⟨[27, 293], 240, fun x => Z5c x.1 x.2.1, by decide⟩
def Z9h : Lay := ⟨[0, 1, 7, 15, 16, 17], [[.s 5 1], [.s 3 1], [.keep], [.s 3 1], [.keep], [.keep]], [], ⟨[.one (.v 27 1 false), .one (.v 293 1 false), .one (.v 3 1 false), .one (.v 293 1 false), .one (.v 3 1 false), .one (.v 3 1 false)], []⟩⟩
def Z9n : Lay := ⟨[0, 10, 32, 33, 34], [[.s 5 1], [.own 23 1], [.s 3 1], [.keep], [.keep]], [.row true], ⟨[.one (.v 27 1 false), .one (.own 23 0), .one (.v 293 1 false), .one (.v 3 1 false), .one (.v 3 1 false)], [.row 23 true]⟩⟩
def Z95 : Lay := ⟨[0, 10, 12, 13, 32, 33, 34, 38, 39], [[.s 5 1], [.own 23 1], [.keep], [.keep], [.s 3 1], [.keep], [.keep], [.keep], [.keep]], [.row true], ⟨[.one (.v 27 1 false), .one (.own 23 0), .one (.v 3 1 false), .one (.v 23 1 false), .one (.v 293 1 false), .one (.v 3 1 false), .one (.v 3 1 false), .one (.v 3 1 false), .one (.v 3 1 false)], [.row 23 true]⟩⟩
def Zmb : Nat → Option Lay
  | 3 => some Z9h
  | 13 => some Z9n
  | 17 => some Z95
  | _ => none
noncomputable def ZiY : Z8q → Spot U
  | .b0 a0 a1 => entP Tryz.f157 [27, 293] (a0, a1, ())
  | .b1 a0 a1 a2 a3 a4 a5 => spL Tryz.f157 [1, 1, 0, 1, 0, 0, 0] Z9h (((a0, ()), ((a1, ()), ((a2, ()), ((a3, ()), ((a4, ()), ((a5, ()), ())))))), ())
  | .b2 a0 a1 a2 a3 a4 => spL Tryz.f157 [1, 1, 1, 1, 1, 0, 1, 0, 0, 0] Z9n (((a0, ()), ((), ((a2, ()), ((a3, ()), ((a4, ()), ()))))), (a1, ()))
  | .b3 a0 a1 a2 a3 a4 a5 a6 a7 a8 => spL Tryz.f157 [1, 1, 1, 1, 1, 0, 1, 0, 0, 1, 1, 0, 0, 1, 1, 0, 1, 0, 0, 0] Z95 (((a0, ()), ((), ((a2, ()), ((a3, ()), ((a4, ()), ((a5, ()), ((a6, ()), ((a7, ()), ((a8, ()), ()))))))))), (a1, ()))
theorem Zip : BlkP 157 Tryz.f157 (mc Z0w (mc Z9p msN)) hsN Zmb 240 ZU ZiY
  | .b0 _ _ => by kernel_rfl
  | .b1 _ _ _ _ _ _ => by kernel_rfl
  | .b2 _ _ _ _ _ => by kernel_rfl
  | .b3 _ _ _ _ _ _ _ _ _ => by kernel_rfl
theorem ZiW : FnOK Tryz.prog B0 157 ZlY := okP Zip (fun x => .b0 x.1 x.2.1) (by kernel_rfl) Tryz.func157 (by kernel_rfl) (by kernel_rfl) (fun _ => rfl) (fun _ => rfl)
inductive Z8C where
  | b0 (a0 : Zd) (a1 : Int) (a2 : List Int)
  | b1 (a0 a1 : Int) (a2 a3 : Zn)
noncomputable def Z0r : Z8C → Tr U (Zn ⊕ Z8C)
  | .b0 a0 a1 a2 => .chk (([(7 : Int)]).length == 1) ( .bind 240 (Z5c a2 ([(7 : Int)])) (fun (x1 : (List Int) × (List Int) × Int) => .chk (decide (0 ≤ (0 : Int) ∧ (0 : Int) < (↑x1.1.length : Int))) ( .bind 23 (x1.1[(Int.toNat (0 : Int))]?) (fun (x2 : Int) => .chk (([(IntKind.wrap .u64 (a1)), x2]).length == 2) ( .bind 24 (Z1J a0.Hide (⟨#[104, 105, 100, 101]⟩ : ByteArray) ([(IntKind.wrap .u64 (a1)), x2])) (fun (x3 : Int) => .leaf (.inr (.b1 x3 (0 : Int) Z0h Z0h))))))))
  | .b1 a0 a1 a2 a3 => .br (decide (a1 < (6 : Int))) ( .chk (decide (0 ≤ (w64 ((8 : Int) * a1)))) ( .br (a1 == (0 : Int)) ( .leaf (.inr (.b1 a0 (w64 (a1 + (1 : Int))) a2 ({ a3 with x0 := (IntKind.wrap .u8 ((Int.fdiv a0 (2 ^ (min (Int.toNat (w64 ((8 : Int) * a1))) (IntKind.bits .u64)))))) } : Zn)))) ( .br (a1 == (1 : Int)) ( .leaf (.inr (.b1 a0 (w64 (a1 + (1 : Int))) a2 ({ a3 with x1 := (IntKind.wrap .u8 ((Int.fdiv a0 (2 ^ (min (Int.toNat (w64 ((8 : Int) * a1))) (IntKind.bits .u64)))))) } : Zn)))) ( .br (a1 == (2 : Int)) ( .leaf (.inr (.b1 a0 (w64 (a1 + (1 : Int))) a2 ({ a3 with x2 := (IntKind.wrap .u8 ((Int.fdiv a0 (2 ^ (min (Int.toNat (w64 ((8 : Int) * a1))) (IntKind.bits .u64)))))) } : Zn)))) ( .br (a1 == (3 : Int)) ( .leaf (.inr (.b1 a0 (w64 (a1 + (1 : Int))) a2 ({ a3 with x3 := (IntKind.wrap .u8 ((Int.fdiv a0 (2 ^ (min (Int.toNat (w64 ((8 : Int) * a1))) (IntKind.bits .u64)))))) } : Zn)))) ( .br (a1 == (4 : Int)) ( .leaf (.inr (.b1 a0 (w64 (a1 + (1 : Int))) a2 ({ a3 with x4 := (IntKind.wrap .u8 ((Int.fdiv a0 (2 ^ (min (Int.toNat (w64 ((8 : Int) * a1))) (IntKind.bits .u64)))))) } : Zn)))) ( .br (a1 == (5 : Int)) ( .leaf (.inr (.b1 a0 (w64 (a1 + (1 : Int))) a2 ({ a3 with x5 := (IntKind.wrap .u8 ((Int.fdiv a0 (2 ^ (min (Int.toNat (w64 ((8 : Int) * a1))) (IntKind.bits .u64)))))) } : Zn)))) ( .fail)))))))) ( .leaf (.inl a3))
noncomputable def Z7C (a0 : Zd) (a1 : Int) (a2 : List Int) : Option Zn := flow Z0r (.b0 a0 a1 a2)
noncomputable def ZlQ : Mod U := ⟨[30, 33, 27], 296, fun x => Z7C x.1 x.2.1 x.2.2.1, by decide⟩
def Za0 : Lay := ⟨[6, 10, 11, 29], [[.keep], [.keep], [.keep], [.keep]], [.var k7, .var k7], ⟨[.one (.ptr 0), .one (.v 24 1 false), .one (.ptr 1), .one (.v 3 1 false)], [.var 296 6 (.agg [.v 296 6 true]), .var 296 6 (.agg [.v 296 6 true])]⟩⟩
def ZkQ : Nat → Option Lay
  | 5 => some Za0
  | _ => none
noncomputable def Zjj : Z8C → Spot U
  | .b0 a0 a1 a2 => entP Tryz.f238 [30, 33, 27] (a0, a1, a2, ())
  | .b1 a0 a1 a2 a3 => spL Tryz.f238 [1, 1, 1, 1, 0, 1, 0, 0, 0] Za0 (((), ((a0, ()), ((), ((a1, ()), ())))), ((a2, ()), ((a3, ()), ())))
theorem ZgW : BlkP 238 Tryz.f238 (mc Z7J (mc ZiW msN)) hsN ZkQ 296 Z0r Zjj
  | .b0 _ _ _ => by kernel_rfl
  | .b1 _ _ _ _ => by kernel_rfl
theorem Zjf : FnOK Tryz.prog B0 238 ZlQ := okP ZgW (fun x => .b0 x.1 x.2.1 x.2.2.1) (by kernel_rfl) Tryz.func238 (by kernel_rfl) (by kernel_rfl) (fun _ => rfl) (fun _ => rfl)
end Go.Proofs.YtefmbgacbhifdaaGreat
namespace Go.Proofs.YtefmbgacbhifdaaGreat
open Go Go.Proofs.YtefmbgacbhifdaaGreat.Le
set_option maxRecDepth 100000
inductive Z72 where
  | b0 (a0 : Zc)
  | b1 (a0 : Zc)
  | b2 (a0 : Zc)
noncomputable def Z1h : Z72 → Tr U (Int ⊕ Z72)
  | .b0 a0 => .br (decide (a0.NID < (0 : Int))) ( .leaf (.inl (5 : Int))) ( .br (decide (a0.NID ≥ (128 : Int))) ( .leaf (.inl (5 : Int))) ( .br (decide (a0.TTL < (0 : Int))) ( .leaf (.inl (5 : Int))) ( .br (decide (a0.TTL > (127 : Int))) ( .leaf (.inl (5 : Int))) ( .br (decide (a0.Seq > (16777215 : Int))) ( .leaf (.inl (5 : Int))) ( .leaf (.inr (.b1 a0)))))))
  | .b1 a0 => .bind 4 (Z1g a0.Src) (fun (x1 : Bool) => .br (!x1) ( .leaf (.inl (1 : Int))) ( .bind 4 (Z1g a0.Dst) (fun (x2 : Bool) => .br (!x2) ( .bind 4 (Z2C a0.Dst) (fun (x3 : Bool) => .br (!x3) ( .leaf (.inl (1 : Int))) ( .br ((↑a0.Payload.length : Int) == (0 : Int)) ( .leaf (.inl (1 : Int))) ( .leaf (.inr (.b2 a0)))))) ( .br ((↑a0.Payload.length : Int) == (0 : Int)) ( .leaf (.inl (1 : Int))) ( .leaf (.inr (.b2 a0)))))))
  | .b2 a0 => .br (decide ((↑a0.Payload.length : Int) > (16 : Int))) ( .leaf (.inl (4 : Int))) ( .leaf (.inl (0 : Int)))
noncomputable def Z6Z (a0 : Zc) : Option Int := flow Z1h (.b0 a0)
noncomputable def ZiT : Mod U := ⟨[90], 51, fun x => Z6Z x.1, by decide⟩
def Z8K : Lay := ⟨[1], [[.keep]], [.var k2], ⟨[.one (.ptr 0)], [.var 90 8 (.agg [.v 90 8 true])]⟩⟩
def Z8H : Lay := ⟨[1], [[.keep]], [.var k2], ⟨[.one (.ptr 0)], [.var 90 8 (.agg [.v 90 8 true])]⟩⟩
def ZjA : Nat → Option Lay
  | 3 => some Z8K
  | 5 => some Z8H
  | _ => none
noncomputable def ZgQ : Z72 → Spot U
  | .b0 a0 => entP Tryz.f240 [90] (a0, ())
  | .b1 a0 => spL Tryz.f240 [1, 0, 0, 1, 1, 0] Z8K (((), ()), ((a0, ()), ()))
  | .b2 a0 => spL Tryz.f240 [1, 0, 0, 1, 1, 1, 1, 0] Z8H (((), ()), ((a0, ()), ()))
theorem Zgk : BlkP 240 Tryz.f240 (mc Z4e (mc Z5B msN)) hsN ZjA 51 Z1h ZgQ
  | .b0 _ => by kernel_rfl
  | .b1 _ => by kernel_rfl
  | .b2 _ => by kernel_rfl
theorem ZgL : FnOK Tryz.prog B0 240 ZiT := okP Zgk (fun x => .b0 x.1) (by kernel_rfl) Tryz.func240 (by kernel_rfl) (by kernel_rfl) (fun _ => rfl) (fun _ => rfl)
inductive Z4K where
  | b0 (a0 : Zc)
noncomputable def Z4O : Z4K → Tr U (Int ⊕ Z4K)
  | .b0 a0 => .br a0.Control ( .leaf (.inl (bits .or .u8 (IntKind.wrap .u8 (a0.TTL)) (128 : Int)))) ( .leaf (.inl (IntKind.wrap .u8 (a0.TTL))))
noncomputable def Z2D (a0 : Zc) : Option Int := flow Z4O (.b0 a0)
noncomputable def Zgp : Mod U := ⟨[90], 5, fun x => Z2D x.1, by decide⟩
noncomputable def ZeL : Z4K → Spot U
  | .b0 a0 => entP Tryz.f243 [90] (a0, ())
theorem ZdD : BlkP 243 Tryz.f243 msN hsN AN 5 Z4O ZeL
  | .b0 _ => by kernel_rfl
theorem Z7t : FnOK Tryz.prog B0 243 Zgp := okP ZdD (fun x => .b0 x.1) (by kernel_rfl) Tryz.func243 (by kernel_rfl) (by kernel_rfl) (fun _ => rfl) (fun _ => rfl)
inductive Z5I where
  | b0 (a0 : Zc)
noncomputable def Z5M : Z5I → Tr U (Zn ⊕ Z5I)
  | .b0 a0 => .bind 5 (Z2D a0) (fun (x1 : Int) => .leaf (.inl (⟨x1, (IntKind.wrap .u8 (a0.Seq)), (IntKind.wrap .u8 ((Int.fdiv a0.Seq (2 ^ (8 : Nat))))), (IntKind.wrap .u8 ((Int.fdiv a0.Seq (2 ^ (16 : Nat))))), (IntKind.wrap .u8 (a0.Src)), (IntKind.wrap .u8 ((Int.fdiv a0.Src (2 ^ (8 : Nat)))))⟩ : Zn)))
noncomputable def Z5p (a0 : Zc) : Option Zn := flow Z5M (.b0 a0)
noncomputable def Zhn : Mod U := ⟨[90], 296, fun x => Z5p x.1, by decide⟩
noncomputable def Zgx : Z5I → Spot U
  | .b0 a0 => entP Tryz.f244 [90] (a0, ())
theorem ZeR : BlkP 244 Tryz.f244 (mc Z7t msN) hsN AN 296 Z5M Zgx
  | .b0 _ => by kernel_rfl
theorem Zg6 : FnOK Tryz.prog B0 244 Zhn := okP ZeR (fun x => .b0 x.1) (by kernel_rfl) Tryz.func244 (by kernel_rfl) (by kernel_rfl) (fun _ => rfl) (fun _ => rfl)
inductive Z5y where
  | b0 (a0 : Zd) (a1 : Zc)
noncomputable def Z5W : Z5y → Tr U (((List Int) × Int) ⊕ Z5y)
  | .b0 a0 a1 => .bind 51 (Z6Z a1) (fun (x1 : Int) => .br (x1 != (0 : Int)) ( .chk (([] : List Int).length == 0) ( .leaf (.inl (([] : List Int), x1)))) ( .br (a1.NID != a0.NID) ( .chk (([] : List Int).length == 0) ( .leaf (.inl (([] : List Int), (17 : Int))))) ( .chk (([(IntKind.wrap .u8 (a1.Dst)), (IntKind.wrap .u8 ((Int.fdiv a1.Dst (2 ^ (8 : Nat)))))]).length == 2) ( .chk (([[(IntKind.wrap .u8 (a1.Dst)), (IntKind.wrap .u8 ((Int.fdiv a1.Dst (2 ^ (8 : Nat)))))], a1.Payload]).length == 2) ( .bind 27 (Zy ([[(IntKind.wrap .u8 (a1.Dst)), (IntKind.wrap .u8 ((Int.fdiv a1.Dst (2 ^ (8 : Nat)))))], a1.Payload])) (fun (x2 : List Int) => .bind 23 (Z3k (0 : Int) a1.Src a1.Seq a1.IV) (fun (x3 : Int) => .bind 5 (Z2D a1) (fun (x4 : Int) => .chk (([x4]).length == 1) ( .bind 27 (Z7h a0.Encrypt x3 ([x4]) x2) (fun (x5 : List Int) => .bind 296 (Z5p a1) (fun (x6 : Zn) => .bind 296 (Z7C a0 a1.IV x5) (fun (x7 : Zn) => .bind 296 (Z3G x6 x7) (fun (x8 : Zn) => .chk (([(bits .or .u8 (IntKind.wrap .u8 (a1.NID)) (IntKind.wrap .u8 ((IntKind.wrap .u8 ((bits .and .u32 a1.IV (1 : Int)))) * 2 ^ (7 : Nat))))]).length == 1) ( .chk (([[(bits .or .u8 (IntKind.wrap .u8 (a1.NID)) (IntKind.wrap .u8 ((IntKind.wrap .u8 ((bits .and .u32 a1.IV (1 : Int)))) * 2 ^ (7 : Nat))))], (List.take 6 [x8.x0, x8.x1, x8.x2, x8.x3, x8.x4, x8.x5]), x5]).length == 3) ( .bind 27 (Zy ([[(bits .or .u8 (IntKind.wrap .u8 (a1.NID)) (IntKind.wrap .u8 ((IntKind.wrap .u8 ((bits .and .u32 a1.IV (1 : Int)))) * 2 ^ (7 : Nat))))], (List.take 6 [x8.x0, x8.x1, x8.x2, x8.x3, x8.x4, x8.x5]), x5])) (fun (x9 : List Int) => .leaf (.inl (x9, (0 : Int)))))))))))))))))))
noncomputable def Z5r (a0 : Zd) (a1 : Zc) : Option ((List Int) × Int) := flow Z5W (.b0 a0 a1)
noncomputable def ZhQ : Mod U := ⟨[30, 90], 205, fun x => Z5r x.1 x.2.1, by decide⟩
noncomputable def Zg8 : Z5y → Spot U
  | .b0 a0 a1 => entP Tryz.f169 [30, 90] (a0, a1, ())
theorem Ze9 : BlkP 169 Tryz.f169 (mc Z0w (mc Zhm (mc Z8G (mc Zcr (mc Zjf (mc ZgL (mc Z7t (mc Zg6 msN)))))))) hsN AN 205 Z5W Zg8
  | .b0 _ _ => by kernel_rfl
theorem Zgg : FnOK Tryz.prog B0 169 ZhQ := okP Ze9 (fun x => .b0 x.1 x.2.1) (by kernel_rfl) Tryz.func169 (by kernel_rfl) (by kernel_rfl) (fun _ => rfl) (fun _ => rfl)
inductive Z2y where
  | b0 (a0 : Zd) (a1 : Zc) (a2 : Int) (a3 : Zg) (a4 : List Zi)
noncomputable def Z2w : Z2y → Tr U (Z0d ⊕ Z2y)
  | .b0 a0 a1 a2 a3 a4 => .bind 205 (Z5r a0 a1) (fun (x1 : (List Int) × Int) => .br (x1.2 != (0 : Int)) ( .chk ((a3.Node.Groups.length == a3.Node.Groups.length) && ((a3.Node.Cache.length == a3.Node.Cache.length) && ((a3.Node.Replays.length == a3.Node.Replays.length) && ((a3.Node.Friend.Queue.length == a3.Node.Friend.Queue.length) && ((a3.Node.Friend.Subs.length == a3.Node.Friend.Subs.length) && ((a3.Node.Low.Subs.length == a3.Node.Low.Subs.length) && ((a3.Node.Out.length == a3.Node.Out.length) && ((a3.Node.Friend.Queue.length == a3.Node.Friend.Queue.length) && ((a3.Node.Friend.Subs.length == a3.Node.Friend.Subs.length) && (a4.length == a4.length)))))))))) ( .leaf (.inl (⟨false, a3, a4⟩ : Z0d)))) ( .chk (([(⟨a2, x1.1, (0 : Int)⟩ : Zb)]).length == 1) ( .chk (a3.Node.Out.length == a3.Node.Out.length) ( .chk (decide ((a3.Node.Out.length + ([(⟨a2, x1.1, (0 : Int)⟩ : Zb)]).length) * 40 ≤ lim) && decide (a3.Node.Out.length + ([(⟨a2, x1.1, (0 : Int)⟩ : Zb)]).length ≤ maxLen)) ( .chk ((a3.Node.Groups.length == a3.Node.Groups.length) && ((a3.Node.Cache.length == a3.Node.Cache.length) && ((a3.Node.Replays.length == a3.Node.Replays.length) && ((a3.Node.Friend.Queue.length == a3.Node.Friend.Queue.length) && ((a3.Node.Friend.Subs.length == a3.Node.Friend.Subs.length) && ((a3.Node.Low.Subs.length == a3.Node.Low.Subs.length) && (((a3.Node.Out ++ [(⟨a2, x1.1, (0 : Int)⟩ : Zb)]).length == (a3.Node.Out ++ [(⟨a2, x1.1, (0 : Int)⟩ : Zb)]).length) && ((a3.Node.Friend.Queue.length == a3.Node.Friend.Queue.length) && ((a3.Node.Friend.Subs.length == a3.Node.Friend.Subs.length) && (a4.length == a4.length)))))))))) ( .leaf (.inl (⟨true, (⟨({ a3.Node with Out := (a3.Node.Out ++ [(⟨a2, x1.1, (0 : Int)⟩ : Zb)]) } : Z8), a3.f_now⟩ : Zg), a4⟩ : Z0d))))))))
noncomputable def Z2z (a0 : Zd) (a1 : Zc) (a2 : Int) (a3 : Zg) (a4 : List Zi) : Option Z0d := flow Z2w (.b0 a0 a1 a2 a3 a4)
def Z3B : Shape := ⟨[.one (.ptr 0), .agg [.v 30 5 true], .agg [.v 90 8 true], .one (.v 3 1 false)], [.var 144 48 (.agg [.v 22 1 false, .v 24 1 false, .v 24 1 false, .v 32 11 true, .v 35 3 true, .v 33 1 false, .v 4 1 false, .v 4 1 false, .own 22 1, .own 64 2, .own 116 3, .v 42 2 true, .v 22 1 false, .own 108 4, .own 22 5, .v 3 1 false, .v 4 1 false, .v 3 1 false, .v 3 1 false, .v 3 1 false, .v 3 1 false, .v 22 1 false, .v 3 1 false, .v 3 1 false, .v 3 1 false, .v 3 1 false, .own 22 6, .v 3 1 false, .v 4 1 false, .v 3 1 false, .own 62 7, .v 33 1 false, .v 4 1 false, .v 3 1 false, .fn 61 [] [8]]), .row 22 true, .row 64 true, .row 116 true, .row 108 false, .row 22 false, .row 22 true, .row 62 true, .var 58 1 (.one (.own 68 9)), .row 68 true]⟩
noncomputable def Z4Z : HMod U := ⟨[[.keep], k10, k2, [.keep]], [.var k3, .row true, .row true, .row true, .row false, .row false, .row true, .row true, .var [.own 68 11], .row true], Z3B, ⟨[.one (.v 4 1 false)], [.var 144 48 (.agg [.v 22 1 false, .v 24 1 false, .v 24 1 false, .v 32 11 true, .v 35 3 true, .v 33 1 false, .v 4 1 false, .v 4 1 false, .own 22 1, .own 64 2, .own 116 3, .v 42 2 true, .v 22 1 false, .own 108 4, .own 22 5, .v 3 1 false, .v 4 1 false, .v 3 1 false, .v 3 1 false, .v 3 1 false, .v 3 1 false, .v 22 1 false, .v 3 1 false, .v 3 1 false, .v 3 1 false, .v 3 1 false, .own 22 6, .v 3 1 false, .v 4 1 false, .v 3 1 false, .own 62 7, .v 33 1 false, .v 4 1 false, .v 3 1 false, .fn 61 [] [8]]), .row 22 true, .row 64 true, .row 116 true, .row 108 false, .row 22 false, .row 22 true, .row 62 true, .var 58 1 (.one (.own 68 9)), .row 68 true]⟩, true, 1383, fun (y : Z0d) => (((y.q0, ()), ()), ((y.q1.Node.Address, (y.q1.Node.Device, (y.q1.Node.App, (y.q1.Node.Keys, (y.q1.Node.IV, (y.q1.Node.Seq, (y.q1.Node.Relay, (y.q1.Node.Befriends, (y.q1.Node.Transport, (y.q1.Node.Friend.Low, (y.q1.Node.Friend.Bit, (y.q1.Node.Friend.Sent, (y.q1.Node.Friend.Polled, (y.q1.Node.Friend.Counter, (y.q1.Node.Friend.Dropped, (y.q1.Node.Low.Phase, (y.q1.Node.Low.Friend, (y.q1.Node.Low.Bit, (y.q1.Node.Low.Counter, (y.q1.Node.Low.Due, (y.q1.Node.Low.Tries, (y.q1.Node.Low.Told, (y.q1.Node.Low.More, (y.q1.Node.Low.Last, (y.q1.Node.Stored, (y.q1.Node.Up, (y.q1.f_now, ()))))))))))))))))))))))))))), (y.q1.Node.Groups, (y.q1.Node.Cache, (y.q1.Node.Replays, (y.q1.Node.Friend.Queue, (y.q1.Node.Friend.Subs, (y.q1.Node.Low.Subs, (y.q1.Node.Out, ((), (y.q2, ()))))))))))), fun x => Z2z x.1.2.1.1 x.1.2.2.1.1 x.1.2.2.2.1.1 (⟨(⟨x.2.1.1, x.2.1.2.1, x.2.1.2.2.1, x.2.1.2.2.2.1, x.2.1.2.2.2.2.1, x.2.1.2.2.2.2.2.1, x.2.1.2.2.2.2.2.2.1, x.2.1.2.2.2.2.2.2.2.1, x.2.2.1, x.2.2.2.1, x.2.2.2.2.1, x.2.1.2.2.2.2.2.2.2.2.1, (⟨x.2.1.2.2.2.2.2.2.2.2.2.1, x.2.2.2.2.2.1, x.2.2.2.2.2.2.1, x.2.1.2.2.2.2.2.2.2.2.2.2.1, x.2.1.2.2.2.2.2.2.2.2.2.2.2.1, x.2.1.2.2.2.2.2.2.2.2.2.2.2.2.1, x.2.1.2.2.2.2.2.2.2.2.2.2.2.2.2.1, x.2.1.2.2.2.2.2.2.2.2.2.2.2.2.2.2.1⟩ : Zk), (⟨x.2.1.2.2.2.2.2.2.2.2.2.2.2.2.2.2.2.1, x.2.1.2.2.2.2.2.2.2.2.2.2.2.2.2.2.2.2.1, x.2.1.2.2.2.2.2.2.2.2.2.2.2.2.2.2.2.2.2.1, x.2.1.2.2.2.2.2.2.2.2.2.2.2.2.2.2.2.2.2.2.1, x.2.1.2.2.2.2.2.2.2.2.2.2.2.2.2.2.2.2.2.2.2.1, x.2.1.2.2.2.2.2.2.2.2.2.2.2.2.2.2.2.2.2.2.2.2.1, x.2.2.2.2.2.2.2.1, x.2.1.2.2.2.2.2.2.2.2.2.2.2.2.2.2.2.2.2.2.2.2.2.1, x.2.1.2.2.2.2.2.2.2.2.2.2.2.2.2.2.2.2.2.2.2.2.2.2.1, x.2.1.2.2.2.2.2.2.2.2.2.2.2.2.2.2.2.2.2.2.2.2.2.2.2.1⟩ : Zm), x.2.2.2.2.2.2.2.2.1, x.2.1.2.2.2.2.2.2.2.2.2.2.2.2.2.2.2.2.2.2.2.2.2.2.2.2.1, x.2.1.2.2.2.2.2.2.2.2.2.2.2.2.2.2.2.2.2.2.2.2.2.2.2.2.2.1⟩ : Z8), x.2.1.2.2.2.2.2.2.2.2.2.2.2.2.2.2.2.2.2.2.2.2.2.2.2.2.2.2.1⟩ : Zg) x.2.2.2.2.2.2.2.2.2.2.1, ⟨⟨trivial, ⟨⟨⟨by decide, fun _ => ⟨_, rfl, rfl⟩⟩, trivial⟩, ⟨⟨⟨by decide, fun _ => ⟨_, rfl, rfl⟩⟩, trivial⟩, ⟨⟨by decide, fun _ => rfl⟩, trivial⟩⟩⟩⟩, ⟨⟨⟨by decide, fun _ => rfl⟩, ⟨⟨by decide, fun _ => rfl⟩, ⟨⟨by decide, fun _ => rfl⟩, ⟨⟨by decide, fun _ => ⟨_, rfl, rfl⟩⟩, ⟨⟨by decide, fun _ => ⟨_, rfl, rfl⟩⟩, ⟨⟨by decide, fun _ => rfl⟩, ⟨⟨by decide, fun _ => rfl⟩, ⟨⟨by decide, fun _ => rfl⟩, ⟨trivial, ⟨trivial, ⟨trivial, ⟨⟨by decide, fun _ => ⟨_, rfl, rfl⟩⟩, ⟨⟨by decide, fun _ => rfl⟩, ⟨trivial, ⟨trivial, ⟨⟨by decide, fun _ => rfl⟩, ⟨⟨by decide, fun _ => rfl⟩, ⟨⟨by decide, fun _ => rfl⟩, ⟨⟨by decide, fun _ => rfl⟩, ⟨⟨by decide, fun _ => rfl⟩, ⟨⟨by decide, fun _ => rfl⟩, ⟨⟨by decide, fun _ => rfl⟩, ⟨⟨by decide, fun _ => rfl⟩, ⟨⟨by decide, fun _ => rfl⟩, ⟨⟨by decide, fun _ => rfl⟩, ⟨⟨by decide, fun _ => rfl⟩, ⟨trivial, ⟨⟨by decide, fun _ => rfl⟩, ⟨⟨by decide, fun _ => rfl⟩, ⟨⟨by decide, fun _ => rfl⟩, ⟨trivial, ⟨⟨by decide, fun _ => rfl⟩, ⟨⟨by decide, fun _ => rfl⟩, ⟨⟨by decide, fun _ => rfl⟩, ⟨trivial, trivial⟩⟩⟩⟩⟩⟩⟩⟩⟩⟩⟩⟩⟩⟩⟩⟩⟩⟩⟩⟩⟩⟩⟩⟩⟩⟩⟩⟩⟩⟩⟩⟩⟩⟩⟩, ⟨by decide, ⟨by decide, ⟨by decide, ⟨by decide, ⟨by decide, ⟨by decide, ⟨by decide, ⟨trivial, ⟨by decide, trivial⟩⟩⟩⟩⟩⟩⟩⟩⟩⟩⟩⟩
noncomputable def Z93 : Z2y → Spot U
  | .b0 a0 a1 a2 a3 a4 => entH Tryz.f96 Z3B (((), ((a0, ()), ((a1, ()), ((a2, ()), ())))), ((a3.Node.Address, (a3.Node.Device, (a3.Node.App, (a3.Node.Keys, (a3.Node.IV, (a3.Node.Seq, (a3.Node.Relay, (a3.Node.Befriends, (a3.Node.Transport, (a3.Node.Friend.Low, (a3.Node.Friend.Bit, (a3.Node.Friend.Sent, (a3.Node.Friend.Polled, (a3.Node.Friend.Counter, (a3.Node.Friend.Dropped, (a3.Node.Low.Phase, (a3.Node.Low.Friend, (a3.Node.Low.Bit, (a3.Node.Low.Counter, (a3.Node.Low.Due, (a3.Node.Low.Tries, (a3.Node.Low.Told, (a3.Node.Low.More, (a3.Node.Low.Last, (a3.Node.Stored, (a3.Node.Up, (a3.f_now, ()))))))))))))))))))))))))))), (a3.Node.Groups, (a3.Node.Cache, (a3.Node.Replays, (a3.Node.Friend.Queue, (a3.Node.Friend.Subs, (a3.Node.Low.Subs, (a3.Node.Out, ((), (a4, ())))))))))))
theorem Z8W : BlkH 96 Tryz.f96 (mc Zgg msN) hsN AN [[.keep]] [.var k3, .row true, .row true, .row true, .row false, .row false, .row true, .row true, .var [.own 68 11], .row true] 10 Z4Z Z2w Z93
  | .b0 _ _ _ _ _ => by kernel_rfl
theorem Z9o : HFnOK Tryz.prog B0 96 Z4Z := okH Z8W (fun x => .b0 x.1.2.1.1 x.1.2.2.1.1 x.1.2.2.2.1.1 (⟨(⟨x.2.1.1, x.2.1.2.1, x.2.1.2.2.1, x.2.1.2.2.2.1, x.2.1.2.2.2.2.1, x.2.1.2.2.2.2.2.1, x.2.1.2.2.2.2.2.2.1, x.2.1.2.2.2.2.2.2.2.1, x.2.2.1, x.2.2.2.1, x.2.2.2.2.1, x.2.1.2.2.2.2.2.2.2.2.1, (⟨x.2.1.2.2.2.2.2.2.2.2.2.1, x.2.2.2.2.2.1, x.2.2.2.2.2.2.1, x.2.1.2.2.2.2.2.2.2.2.2.2.1, x.2.1.2.2.2.2.2.2.2.2.2.2.2.1, x.2.1.2.2.2.2.2.2.2.2.2.2.2.2.1, x.2.1.2.2.2.2.2.2.2.2.2.2.2.2.2.1, x.2.1.2.2.2.2.2.2.2.2.2.2.2.2.2.2.1⟩ : Zk), (⟨x.2.1.2.2.2.2.2.2.2.2.2.2.2.2.2.2.2.1, x.2.1.2.2.2.2.2.2.2.2.2.2.2.2.2.2.2.2.1, x.2.1.2.2.2.2.2.2.2.2.2.2.2.2.2.2.2.2.2.1, x.2.1.2.2.2.2.2.2.2.2.2.2.2.2.2.2.2.2.2.2.1, x.2.1.2.2.2.2.2.2.2.2.2.2.2.2.2.2.2.2.2.2.2.1, x.2.1.2.2.2.2.2.2.2.2.2.2.2.2.2.2.2.2.2.2.2.2.1, x.2.2.2.2.2.2.2.1, x.2.1.2.2.2.2.2.2.2.2.2.2.2.2.2.2.2.2.2.2.2.2.2.1, x.2.1.2.2.2.2.2.2.2.2.2.2.2.2.2.2.2.2.2.2.2.2.2.2.1, x.2.1.2.2.2.2.2.2.2.2.2.2.2.2.2.2.2.2.2.2.2.2.2.2.2.1⟩ : Zm), x.2.2.2.2.2.2.2.2.1, x.2.1.2.2.2.2.2.2.2.2.2.2.2.2.2.2.2.2.2.2.2.2.2.2.2.2.1, x.2.1.2.2.2.2.2.2.2.2.2.2.2.2.2.2.2.2.2.2.2.2.2.2.2.2.2.1⟩ : Z8), x.2.1.2.2.2.2.2.2.2.2.2.2.2.2.2.2.2.2.2.2.2.2.2.2.2.2.2.2.1⟩ : Zg) x.2.2.2.2.2.2.2.2.2.2.1) (fun x => by kernel_rfl) (by kernel_rfl) Tryz.func96 (by kernel_rfl) (by kernel_rfl) (fun x => by kernel_rfl) (fun x => by kernel_rfl)
theorem Z8k : Z6O Tryz.prog 78 1 1 5 := Z13 ZaM (t := 27) (tb := 4) (e := 5) Tryz.func78 (by kernel_rfl) (by kernel_rfl) (by kernel_rfl) (by kernel_rfl) (by kernel_rfl) (by kernel_rfl) (by kernel_rfl) (by decide)
noncomputable def Z0l (a0 : List Int) : Option Z0k := if a0.length * 1 ≤ lim ∧ a0.length ≤ maxLen then some ⟨a0⟩ else none
def Z9D : Shape := ⟨[.one (.v 27 1 false)], []⟩
def Z24 : Shape := ⟨[.one (.own 5 0)], [.row 5 true]⟩
noncomputable def Z1L : HMod U := { fa := [[.s 5 1]], fb := [], sin := Z9D, sout := Z24, one := true, ky := 1374, toX := fun (y : Z0k) => (((), ()), (y.q0, ())), fn := fun x => Z0l x.1.1.1, ok := ⟨⟨⟨by decide, fun _ => rfl⟩, trivial⟩, trivial⟩ }
theorem Z2x : HFnOK Tryz.prog B0 78 Z1L := Z4s Z8k fun x y hx => by
  simp only [Z1L, Z0l] at hx
  split at hx
  · rename_i h
    cases hx
    exact ⟨_, rfl, rfl, by simp [Z1L, HMod.out, Z24, Shape.enc, lensB, encA, encSp, encP, encB, toV], by simp [Z1L, HMod.out, Z24, Shape.enc, lensB, encA, encSp, encP, encB, toH, toBox, Zo], by simpa using h.1, by simpa using h.2⟩
  · cases hx
inductive Z7U where
  | b0 (a0 : Ze)
noncomputable def Z7W : Z7U → Tr U (Ze ⊕ Z7U)
  | .b0 a0 => .bind 1374 (Z0l a0.PDU.Payload) (fun (y1 : Z0k) => .bind 1374 (Z0l a0.Lower.Bytes) (fun (y2 : Z0k) => .chk (y1.q0.length == y1.q0.length) ( .chk (y2.q0.length == y2.q0.length) ( .leaf (.inl (⟨({ a0.PDU with Payload := y1.q0 } : Zc), ({ a0.Lower with Bytes := y2.q0 } : Z5)⟩ : Ze))))))
noncomputable def Z5b (a0 : Ze) : Option Ze := flow Z7W (.b0 a0)
noncomputable def Zl9 : Mod U := ⟨[108], 108, fun x => Z5b x.1, by decide⟩
noncomputable def Zjz : Z7U → Spot U
  | .b0 a0 => entP Tryz.f76 [108] (a0, ())
theorem ZhU : BlkP 76 Tryz.f76 msN (hc [] Z2x hsN) AN 108 Z7W Zjz
  | .b0 _ => by kernel_rfl
theorem ZaG : FnOK Tryz.prog B0 76 Zl9 := okP ZhU (fun x => .b0 x.1) (by kernel_rfl) Tryz.func76 (by kernel_rfl) (by kernel_rfl) (fun _ => rfl) (fun _ => rfl)
inductive Z2e where
  | b0 (a0 : List Int) (a1 : Int)
  | b1 (a0 : List Int) (a1 a2 a3 : Int)
noncomputable def Z4u : Z2e → Tr U (Int ⊕ Z2e)
  | .b0 a0 a1 => .leaf (.inr (.b1 a0 a1 (↑a0.length : Int) (0 : Int)))
  | .b1 a0 a1 a2 a3 => .br (decide (a3 < a2)) ( .chk (decide (0 ≤ a3 ∧ a3 < (↑a0.length : Int))) ( .bind 22 (a0[(Int.toNat a3)]?) (fun (x1 : Int) => .br (a1 == x1) ( .leaf (.inl a3)) ( .leaf (.inr (.b1 a0 a1 a2 (w64 (a3 + (1 : Int))))))))) ( .leaf (.inl (-1 : Int)))
noncomputable def Z4B (a0 : List Int) (a1 : Int) : Option Int := flow Z4u (.b0 a0 a1)
noncomputable def Z9V : Mod U := ⟨[36, 22], 3, fun x => Z4B x.1 x.2.1, by decide⟩
def Z3p : Lay := ⟨[0, 1, 7, 8], [[.s 22 1], [.keep], [.keep], [.keep]], [], ⟨[.one (.v 36 1 false), .one (.v 22 1 false), .one (.v 3 1 false), .one (.v 3 1 false)], []⟩⟩
def Z9J : Nat → Option Lay
  | 2 => some Z3p
  | _ => none
noncomputable def Z8S : Z2e → Spot U
  | .b0 a0 a1 => entP Tryz.f252 [36, 22] (a0, a1, ())
  | .b1 a0 a1 a2 a3 => spL Tryz.f252 [1, 0, 1, 0, 0, 0] Z3p (((a0, ()), ((a1, ()), ((a2, ()), ((a3, ()), ())))), ())
theorem Z7D : BlkP 252 Tryz.f252 msN hsN Z9J 3 Z4u Z8S
  | .b0 _ _ => by kernel_rfl
  | .b1 _ _ _ _ => by kernel_rfl
theorem Z8Y : FnOK Tryz.prog B0 252 Z9V := okP Z7D (fun x => .b0 x.1 x.2.1) (by kernel_rfl) Tryz.func252 (by kernel_rfl) (by kernel_rfl) (fun _ => rfl) (fun _ => rfl)
inductive Z1x where
  | b0 (a0 : List Int) (a1 : Int)
noncomputable def Z31 : Z1x → Tr U (Bool ⊕ Z1x)
  | .b0 a0 a1 => .bind 3 (Z4B a0 a1) (fun (x1 : Int) => .leaf (.inl (decide (x1 ≥ (0 : Int)))))
noncomputable def Z2Y (a0 : List Int) (a1 : Int) : Option Bool := flow Z31 (.b0 a0 a1)
noncomputable def Z7p : Mod U := ⟨[36, 22], 4, fun x => Z2Y x.1 x.2.1, by decide⟩
noncomputable def Z6F : Z1x → Spot U
  | .b0 a0 a1 => entP Tryz.f176 [36, 22] (a0, a1, ())
theorem Z69 : BlkP 176 Tryz.f176 (mc Z8Y msN) hsN AN 4 Z31 Z6F
  | .b0 _ _ => by kernel_rfl
theorem Z6V : FnOK Tryz.prog B0 176 Z7p := okP Z69 (fun x => .b0 x.1 x.2.1) (by kernel_rfl) Tryz.func176 (by kernel_rfl) (by kernel_rfl) (fun _ => rfl) (fun _ => rfl)
inductive Z6I where
  | b0 (a0 : Zk) (a1 : Int)
noncomputable def Z6E : Z6I → Tr U (Bool ⊕ Z6I)
  | .b0 a0 a1 => .br (a0.Low != (0 : Int)) ( .br (a1 == a0.Low) ( .leaf (.inl true)) ( .br (a1 == (65535 : Int)) ( .leaf (.inl true)) ( .bind 4 (Z2Y a0.Subs a1) (fun (x1 : Bool) => .leaf (.inl x1))))) ( .leaf (.inl false))
noncomputable def Z6L (a0 : Zk) (a1 : Int) : Option Bool := flow Z6E (.b0 a0 a1)
noncomputable def ZiI : Mod U := ⟨[45, 22], 4, fun x => Z6L x.1 x.2.1, by decide⟩
noncomputable def Zht : Z6I → Spot U
  | .b0 a0 a1 => entP Tryz.f173 [45, 22] (a0, a1, ())
theorem Zgm : BlkP 173 Tryz.f173 (mc Z6V msN) hsN AN 4 Z6E Zht
  | .b0 _ _ => by kernel_rfl
theorem Zig : FnOK Tryz.prog B0 173 ZiI := okP Zgm (fun x => .b0 x.1 x.2.1) (by kernel_rfl) Tryz.func173 (by kernel_rfl) (by kernel_rfl) (fun _ => rfl) (fun _ => rfl)
inductive Z3U where
  | b0 (a0 : Z5)
noncomputable def Z78 : Z3U → Tr U (Bool ⊕ Z3U)
  | .b0 a0 => .br a0.Control ( .leaf (.inl (a0.Opcode != (0 : Int)))) ( .leaf (.inl false))
noncomputable def Z7g (a0 : Z5) : Option Bool := flow Z78 (.b0 a0)
noncomputable def Zer : Mod U := ⟨[106], 4, fun x => Z7g x.1, by decide⟩
noncomputable def ZcH : Z3U → Spot U
  | .b0 a0 => entP Tryz.f174 [106] (a0, ())
theorem Zcb : BlkP 174 Tryz.f174 msN hsN AN 4 Z78 ZcH
  | .b0 _ => by kernel_rfl
theorem Zch : FnOK Tryz.prog B0 174 Zer := okP Zcb (fun x => .b0 x.1) (by kernel_rfl) Tryz.func174 (by kernel_rfl) (by kernel_rfl) (fun _ => rfl) (fun _ => rfl)
inductive Z2a where
  | b0 (a0 : Zc) (a1 : Z5) (a2 : Zg) (a3 : List Zi)
  | b1 (a0 : Zg) (a1 : List Zi) (a2 : Zc) (a3 : Z5)
noncomputable def Z2b : Z2a → Tr U (Z00 ⊕ Z2a)
  | .b0 a0 a1 a2 a3 => .chk (a2.Node.Friend.Queue.length == a2.Node.Friend.Queue.length) ( .chk (a2.Node.Friend.Subs.length == a2.Node.Friend.Subs.length) ( .bind 4 (Z6L a2.Node.Friend a0.Dst) (fun (x1 : Bool) => .br x1 ( .bind 4 (Z7g a1) (fun (x2 : Bool) => .br (!x2) ( .chk ((a2.Node.Groups.length == a2.Node.Groups.length) && ((a2.Node.Cache.length == a2.Node.Cache.length) && ((a2.Node.Replays.length == a2.Node.Replays.length) && ((a2.Node.Friend.Queue.length == a2.Node.Friend.Queue.length) && ((a2.Node.Friend.Subs.length == a2.Node.Friend.Subs.length) && ((a2.Node.Low.Subs.length == a2.Node.Low.Subs.length) && ((a2.Node.Out.length == a2.Node.Out.length) && ((a2.Node.Friend.Queue.length == a2.Node.Friend.Queue.length) && ((a2.Node.Friend.Subs.length == a2.Node.Friend.Subs.length) && (a3.length == a3.length)))))))))) ( .leaf (.inr (.b1 a2 a3 a0 a1)))) ( .chk ((a2.Node.Groups.length == a2.Node.Groups.length) && ((a2.Node.Cache.length == a2.Node.Cache.length) && ((a2.Node.Replays.length == a2.Node.Replays.length) && ((a2.Node.Friend.Queue.length == a2.Node.Friend.Queue.length) && ((a2.Node.Friend.Subs.length == a2.Node.Friend.Subs.length) && ((a2.Node.Low.Subs.length == a2.Node.Low.Subs.length) && ((a2.Node.Out.length == a2.Node.Out.length) && ((a2.Node.Friend.Queue.length == a2.Node.Friend.Queue.length) && ((a2.Node.Friend.Subs.length == a2.Node.Friend.Subs.length) && (a3.length == a3.length)))))))))) ( .leaf (.inl (⟨a2, a3⟩ : Z00)))))) ( .chk ((a2.Node.Groups.length == a2.Node.Groups.length) && ((a2.Node.Cache.length == a2.Node.Cache.length) && ((a2.Node.Replays.length == a2.Node.Replays.length) && ((a2.Node.Friend.Queue.length == a2.Node.Friend.Queue.length) && ((a2.Node.Friend.Subs.length == a2.Node.Friend.Subs.length) && ((a2.Node.Low.Subs.length == a2.Node.Low.Subs.length) && ((a2.Node.Out.length == a2.Node.Out.length) && ((a2.Node.Friend.Queue.length == a2.Node.Friend.Queue.length) && ((a2.Node.Friend.Subs.length == a2.Node.Friend.Subs.length) && (a3.length == a3.length)))))))))) ( .leaf (.inl (⟨a2, a3⟩ : Z00)))))))
  | .b1 a0 a1 a2 a3 => .bind 108 (Z5b (⟨a2, a3⟩ : Ze)) (fun (x1 : Ze) => .fail)
noncomputable def Z2d (a0 : Zc) (a1 : Z5) (a2 : Zg) (a3 : List Zi) : Option Z00 := flow Z2b (.b0 a0 a1 a2 a3)
def Z3n : Shape := ⟨[.one (.ptr 0), .agg [.v 90 8 true], .agg [.v 106 10 true]], [.var 144 48 (.agg [.v 22 1 false, .v 24 1 false, .v 24 1 false, .v 32 11 true, .v 35 3 true, .v 33 1 false, .v 4 1 false, .v 4 1 false, .own 22 1, .own 64 2, .own 116 3, .v 42 2 true, .v 22 1 false, .own 108 4, .own 22 5, .v 3 1 false, .v 4 1 false, .v 3 1 false, .v 3 1 false, .v 3 1 false, .v 3 1 false, .v 22 1 false, .v 3 1 false, .v 3 1 false, .v 3 1 false, .v 3 1 false, .own 22 6, .v 3 1 false, .v 4 1 false, .v 3 1 false, .own 62 7, .v 33 1 false, .v 4 1 false, .v 3 1 false, .fn 61 [] [8]]), .row 22 true, .row 64 true, .row 116 true, .row 108 false, .row 22 false, .row 22 true, .row 62 true, .var 58 1 (.one (.own 68 9)), .row 68 true]⟩
noncomputable def Z4G : HMod U := ⟨[[.keep], k2, k1], [.var k3, .row true, .row true, .row true, .row false, .row false, .row true, .row true, .var [.own 68 11], .row true], Z3n, ⟨[], [.var 144 48 (.agg [.v 22 1 false, .v 24 1 false, .v 24 1 false, .v 32 11 true, .v 35 3 true, .v 33 1 false, .v 4 1 false, .v 4 1 false, .own 22 1, .own 64 2, .own 116 3, .v 42 2 true, .v 22 1 false, .own 108 4, .own 22 5, .v 3 1 false, .v 4 1 false, .v 3 1 false, .v 3 1 false, .v 3 1 false, .v 3 1 false, .v 22 1 false, .v 3 1 false, .v 3 1 false, .v 3 1 false, .v 3 1 false, .own 22 6, .v 3 1 false, .v 4 1 false, .v 3 1 false, .own 62 7, .v 33 1 false, .v 4 1 false, .v 3 1 false, .fn 61 [] [8]]), .row 22 true, .row 64 true, .row 116 true, .row 108 false, .row 22 false, .row 22 true, .row 62 true, .var 58 1 (.one (.own 68 9)), .row 68 true]⟩, false, 1384, fun (y : Z00) => ((), ((y.q0.Node.Address, (y.q0.Node.Device, (y.q0.Node.App, (y.q0.Node.Keys, (y.q0.Node.IV, (y.q0.Node.Seq, (y.q0.Node.Relay, (y.q0.Node.Befriends, (y.q0.Node.Transport, (y.q0.Node.Friend.Low, (y.q0.Node.Friend.Bit, (y.q0.Node.Friend.Sent, (y.q0.Node.Friend.Polled, (y.q0.Node.Friend.Counter, (y.q0.Node.Friend.Dropped, (y.q0.Node.Low.Phase, (y.q0.Node.Low.Friend, (y.q0.Node.Low.Bit, (y.q0.Node.Low.Counter, (y.q0.Node.Low.Due, (y.q0.Node.Low.Tries, (y.q0.Node.Low.Told, (y.q0.Node.Low.More, (y.q0.Node.Low.Last, (y.q0.Node.Stored, (y.q0.Node.Up, (y.q0.f_now, ()))))))))))))))))))))))))))), (y.q0.Node.Groups, (y.q0.Node.Cache, (y.q0.Node.Replays, (y.q0.Node.Friend.Queue, (y.q0.Node.Friend.Subs, (y.q0.Node.Low.Subs, (y.q0.Node.Out, ((), (y.q1, ()))))))))))), fun x => Z2d x.1.2.1.1 x.1.2.2.1.1 (⟨(⟨x.2.1.1, x.2.1.2.1, x.2.1.2.2.1, x.2.1.2.2.2.1, x.2.1.2.2.2.2.1, x.2.1.2.2.2.2.2.1, x.2.1.2.2.2.2.2.2.1, x.2.1.2.2.2.2.2.2.2.1, x.2.2.1, x.2.2.2.1, x.2.2.2.2.1, x.2.1.2.2.2.2.2.2.2.2.1, (⟨x.2.1.2.2.2.2.2.2.2.2.2.1, x.2.2.2.2.2.1, x.2.2.2.2.2.2.1, x.2.1.2.2.2.2.2.2.2.2.2.2.1, x.2.1.2.2.2.2.2.2.2.2.2.2.2.1, x.2.1.2.2.2.2.2.2.2.2.2.2.2.2.1, x.2.1.2.2.2.2.2.2.2.2.2.2.2.2.2.1, x.2.1.2.2.2.2.2.2.2.2.2.2.2.2.2.2.1⟩ : Zk), (⟨x.2.1.2.2.2.2.2.2.2.2.2.2.2.2.2.2.2.1, x.2.1.2.2.2.2.2.2.2.2.2.2.2.2.2.2.2.2.1, x.2.1.2.2.2.2.2.2.2.2.2.2.2.2.2.2.2.2.2.1, x.2.1.2.2.2.2.2.2.2.2.2.2.2.2.2.2.2.2.2.2.1, x.2.1.2.2.2.2.2.2.2.2.2.2.2.2.2.2.2.2.2.2.2.1, x.2.1.2.2.2.2.2.2.2.2.2.2.2.2.2.2.2.2.2.2.2.2.1, x.2.2.2.2.2.2.2.1, x.2.1.2.2.2.2.2.2.2.2.2.2.2.2.2.2.2.2.2.2.2.2.2.1, x.2.1.2.2.2.2.2.2.2.2.2.2.2.2.2.2.2.2.2.2.2.2.2.2.1, x.2.1.2.2.2.2.2.2.2.2.2.2.2.2.2.2.2.2.2.2.2.2.2.2.2.1⟩ : Zm), x.2.2.2.2.2.2.2.2.1, x.2.1.2.2.2.2.2.2.2.2.2.2.2.2.2.2.2.2.2.2.2.2.2.2.2.2.1, x.2.1.2.2.2.2.2.2.2.2.2.2.2.2.2.2.2.2.2.2.2.2.2.2.2.2.2.1⟩ : Z8), x.2.1.2.2.2.2.2.2.2.2.2.2.2.2.2.2.2.2.2.2.2.2.2.2.2.2.2.2.1⟩ : Zg) x.2.2.2.2.2.2.2.2.2.2.1, ⟨⟨trivial, ⟨⟨⟨by decide, fun _ => ⟨_, rfl, rfl⟩⟩, trivial⟩, ⟨⟨⟨by decide, fun _ => ⟨_, rfl, rfl⟩⟩, trivial⟩, trivial⟩⟩⟩, ⟨⟨⟨by decide, fun _ => rfl⟩, ⟨⟨by decide, fun _ => rfl⟩, ⟨⟨by decide, fun _ => rfl⟩, ⟨⟨by decide, fun _ => ⟨_, rfl, rfl⟩⟩, ⟨⟨by decide, fun _ => ⟨_, rfl, rfl⟩⟩, ⟨⟨by decide, fun _ => rfl⟩, ⟨⟨by decide, fun _ => rfl⟩, ⟨⟨by decide, fun _ => rfl⟩, ⟨trivial, ⟨trivial, ⟨trivial, ⟨⟨by decide, fun _ => ⟨_, rfl, rfl⟩⟩, ⟨⟨by decide, fun _ => rfl⟩, ⟨trivial, ⟨trivial, ⟨⟨by decide, fun _ => rfl⟩, ⟨⟨by decide, fun _ => rfl⟩, ⟨⟨by decide, fun _ => rfl⟩, ⟨⟨by decide, fun _ => rfl⟩, ⟨⟨by decide, fun _ => rfl⟩, ⟨⟨by decide, fun _ => rfl⟩, ⟨⟨by decide, fun _ => rfl⟩, ⟨⟨by decide, fun _ => rfl⟩, ⟨⟨by decide, fun _ => rfl⟩, ⟨⟨by decide, fun _ => rfl⟩, ⟨⟨by decide, fun _ => rfl⟩, ⟨trivial, ⟨⟨by decide, fun _ => rfl⟩, ⟨⟨by decide, fun _ => rfl⟩, ⟨⟨by decide, fun _ => rfl⟩, ⟨trivial, ⟨⟨by decide, fun _ => rfl⟩, ⟨⟨by decide, fun _ => rfl⟩, ⟨⟨by decide, fun _ => rfl⟩, ⟨trivial, trivial⟩⟩⟩⟩⟩⟩⟩⟩⟩⟩⟩⟩⟩⟩⟩⟩⟩⟩⟩⟩⟩⟩⟩⟩⟩⟩⟩⟩⟩⟩⟩⟩⟩⟩⟩, ⟨by decide, ⟨by decide, ⟨by decide, ⟨by decide, ⟨by decide, ⟨by decide, ⟨by decide, ⟨trivial, ⟨by decide, trivial⟩⟩⟩⟩⟩⟩⟩⟩⟩⟩⟩⟩
def Z3g : Lay := ⟨[0, 4, 5], [[.keep], [.keep], [.keep]], [.var k3, .row true, .row true, .row true, .row false, .row false, .row true, .row true, .var [.own 68 11], .row true, .var k2, .var k1], ⟨[.one (.ptr 0), .one (.ptr 10), .one (.ptr 11)], [.var 144 48 (.agg [.v 22 1 false, .v 24 1 false, .v 24 1 false, .v 32 11 true, .v 35 3 true, .v 33 1 false, .v 4 1 false, .v 4 1 false, .own 22 1, .own 64 2, .own 116 3, .v 42 2 true, .v 22 1 false, .own 108 4, .own 22 5, .v 3 1 false, .v 4 1 false, .v 3 1 false, .v 3 1 false, .v 3 1 false, .v 3 1 false, .v 22 1 false, .v 3 1 false, .v 3 1 false, .v 3 1 false, .v 3 1 false, .own 22 6, .v 3 1 false, .v 4 1 false, .v 3 1 false, .own 62 7, .v 33 1 false, .v 4 1 false, .v 3 1 false, .fn 61 [] [8]]), .row 22 true, .row 64 true, .row 116 true, .row 108 false, .row 22 false, .row 22 true, .row 62 true, .var 58 1 (.one (.own 68 9)), .row 68 true, .var 90 8 (.agg [.v 90 8 true]), .var 106 10 (.agg [.v 106 10 true])]⟩⟩
def Z9T : Nat → Option Lay
  | 2 => some Z3g
  | _ => none
noncomputable def Z8P : Z2a → Spot U
  | .b0 a0 a1 a2 a3 => entH Tryz.f98 Z3n (((), ((a0, ()), ((a1, ()), ()))), ((a2.Node.Address, (a2.Node.Device, (a2.Node.App, (a2.Node.Keys, (a2.Node.IV, (a2.Node.Seq, (a2.Node.Relay, (a2.Node.Befriends, (a2.Node.Transport, (a2.Node.Friend.Low, (a2.Node.Friend.Bit, (a2.Node.Friend.Sent, (a2.Node.Friend.Polled, (a2.Node.Friend.Counter, (a2.Node.Friend.Dropped, (a2.Node.Low.Phase, (a2.Node.Low.Friend, (a2.Node.Low.Bit, (a2.Node.Low.Counter, (a2.Node.Low.Due, (a2.Node.Low.Tries, (a2.Node.Low.Told, (a2.Node.Low.More, (a2.Node.Low.Last, (a2.Node.Stored, (a2.Node.Up, (a2.f_now, ()))))))))))))))))))))))))))), (a2.Node.Groups, (a2.Node.Cache, (a2.Node.Replays, (a2.Node.Friend.Queue, (a2.Node.Friend.Subs, (a2.Node.Low.Subs, (a2.Node.Out, ((), (a3, ())))))))))))
  | .b1 a0 a1 a2 a3 => spL Tryz.f98 [1, 1, 0] Z3g (((), ((), ((), ()))), ((a0.Node.Address, (a0.Node.Device, (a0.Node.App, (a0.Node.Keys, (a0.Node.IV, (a0.Node.Seq, (a0.Node.Relay, (a0.Node.Befriends, (a0.Node.Transport, (a0.Node.Friend.Low, (a0.Node.Friend.Bit, (a0.Node.Friend.Sent, (a0.Node.Friend.Polled, (a0.Node.Friend.Counter, (a0.Node.Friend.Dropped, (a0.Node.Low.Phase, (a0.Node.Low.Friend, (a0.Node.Low.Bit, (a0.Node.Low.Counter, (a0.Node.Low.Due, (a0.Node.Low.Tries, (a0.Node.Low.Told, (a0.Node.Low.More, (a0.Node.Low.Last, (a0.Node.Stored, (a0.Node.Up, (a0.f_now, ()))))))))))))))))))))))))))), (a0.Node.Groups, (a0.Node.Cache, (a0.Node.Replays, (a0.Node.Friend.Queue, (a0.Node.Friend.Subs, (a0.Node.Low.Subs, (a0.Node.Out, ((), (a1, ((a2, ()), ((a3, ()), ())))))))))))))
theorem Z8p : BlkH 98 Tryz.f98 (mc ZaG (mc Zig (mc Zch msN))) hsN Z9T [] [.var k3, .row true, .row true, .row true, .row false, .row false, .row true, .row true, .var [.own 68 11], .row true] 10 Z4G Z2b Z8P
  | .b0 _ _ _ _ => by kernel_rfl
  | .b1 _ _ _ _ => by kernel_rfl
theorem Z91 : HFnOK Tryz.prog B0 98 Z4G := okH Z8p (fun x => .b0 x.1.2.1.1 x.1.2.2.1.1 (⟨(⟨x.2.1.1, x.2.1.2.1, x.2.1.2.2.1, x.2.1.2.2.2.1, x.2.1.2.2.2.2.1, x.2.1.2.2.2.2.2.1, x.2.1.2.2.2.2.2.2.1, x.2.1.2.2.2.2.2.2.2.1, x.2.2.1, x.2.2.2.1, x.2.2.2.2.1, x.2.1.2.2.2.2.2.2.2.2.1, (⟨x.2.1.2.2.2.2.2.2.2.2.2.1, x.2.2.2.2.2.1, x.2.2.2.2.2.2.1, x.2.1.2.2.2.2.2.2.2.2.2.2.1, x.2.1.2.2.2.2.2.2.2.2.2.2.2.1, x.2.1.2.2.2.2.2.2.2.2.2.2.2.2.1, x.2.1.2.2.2.2.2.2.2.2.2.2.2.2.2.1, x.2.1.2.2.2.2.2.2.2.2.2.2.2.2.2.2.1⟩ : Zk), (⟨x.2.1.2.2.2.2.2.2.2.2.2.2.2.2.2.2.2.1, x.2.1.2.2.2.2.2.2.2.2.2.2.2.2.2.2.2.2.1, x.2.1.2.2.2.2.2.2.2.2.2.2.2.2.2.2.2.2.2.1, x.2.1.2.2.2.2.2.2.2.2.2.2.2.2.2.2.2.2.2.2.1, x.2.1.2.2.2.2.2.2.2.2.2.2.2.2.2.2.2.2.2.2.2.1, x.2.1.2.2.2.2.2.2.2.2.2.2.2.2.2.2.2.2.2.2.2.2.1, x.2.2.2.2.2.2.2.1, x.2.1.2.2.2.2.2.2.2.2.2.2.2.2.2.2.2.2.2.2.2.2.2.1, x.2.1.2.2.2.2.2.2.2.2.2.2.2.2.2.2.2.2.2.2.2.2.2.2.1, x.2.1.2.2.2.2.2.2.2.2.2.2.2.2.2.2.2.2.2.2.2.2.2.2.2.1⟩ : Zm), x.2.2.2.2.2.2.2.2.1, x.2.1.2.2.2.2.2.2.2.2.2.2.2.2.2.2.2.2.2.2.2.2.2.2.2.2.1, x.2.1.2.2.2.2.2.2.2.2.2.2.2.2.2.2.2.2.2.2.2.2.2.2.2.2.2.1⟩ : Z8), x.2.1.2.2.2.2.2.2.2.2.2.2.2.2.2.2.2.2.2.2.2.2.2.2.2.2.2.2.1⟩ : Zg) x.2.2.2.2.2.2.2.2.2.2.1) (fun x => by kernel_rfl) (by kernel_rfl) Tryz.func98 (by kernel_rfl) (by kernel_rfl) (fun x => by kernel_rfl) (fun x => by kernel_rfl)
inductive Z2g where
  | b0 (a0 : Zg) (a1 : List Zi)
  | b1 (a0 : Zg) (a1 : List Zi)
noncomputable def Z0A : Z2g → Tr U (Z0m ⊕ Z2g)
  | .b0 a0 a1 => .br (a0.Node.Seq == a0.Node.Stored) ( .chk ((a0.Node.Groups.length == a0.Node.Groups.length) && ((a0.Node.Cache.length == a0.Node.Cache.length) && ((a0.Node.Replays.length == a0.Node.Replays.length) && ((a0.Node.Friend.Queue.length == a0.Node.Friend.Queue.length) && ((a0.Node.Friend.Subs.length == a0.Node.Friend.Subs.length) && ((a0.Node.Low.Subs.length == a0.Node.Low.Subs.length) && ((a0.Node.Out.length == a0.Node.Out.length) && ((a0.Node.Friend.Queue.length == a0.Node.Friend.Queue.length) && ((a0.Node.Friend.Subs.length == a0.Node.Friend.Subs.length) && (a1.length == a1.length)))))))))) ( .leaf (.inr (.b1 (⟨({ a0.Node with Stored := (IntKind.wrap .u32 (a0.Node.Stored + (100 : Int))) } : Z8), a0.f_now⟩ : Zg) a1)))) ( .chk ((a0.Node.Groups.length == a0.Node.Groups.length) && ((a0.Node.Cache.length == a0.Node.Cache.length) && ((a0.Node.Replays.length == a0.Node.Replays.length) && ((a0.Node.Friend.Queue.length == a0.Node.Friend.Queue.length) && ((a0.Node.Friend.Subs.length == a0.Node.Friend.Subs.length) && ((a0.Node.Low.Subs.length == a0.Node.Low.Subs.length) && ((a0.Node.Out.length == a0.Node.Out.length) && ((a0.Node.Friend.Queue.length == a0.Node.Friend.Queue.length) && ((a0.Node.Friend.Subs.length == a0.Node.Friend.Subs.length) && (a1.length == a1.length)))))))))) ( .leaf (.inr (.b1 a0 a1))))
  | .b1 a0 a1 => .chk ((a0.Node.Groups.length == a0.Node.Groups.length) && ((a0.Node.Cache.length == a0.Node.Cache.length) && ((a0.Node.Replays.length == a0.Node.Replays.length) && ((a0.Node.Friend.Queue.length == a0.Node.Friend.Queue.length) && ((a0.Node.Friend.Subs.length == a0.Node.Friend.Subs.length) && ((a0.Node.Low.Subs.length == a0.Node.Low.Subs.length) && ((a0.Node.Out.length == a0.Node.Out.length) && ((a0.Node.Friend.Queue.length == a0.Node.Friend.Queue.length) && ((a0.Node.Friend.Subs.length == a0.Node.Friend.Subs.length) && (a1.length == a1.length)))))))))) ( .leaf (.inl (⟨(IntKind.wrap .u32 ((IntKind.wrap .u32 (a0.Node.Seq + (1 : Int))) - (1 : Int))), (⟨({ a0.Node with Seq := (IntKind.wrap .u32 (a0.Node.Seq + (1 : Int))) } : Z8), a0.f_now⟩ : Zg), a1⟩ : Z0m)))
noncomputable def Z2j (a0 : Zg) (a1 : List Zi) : Option Z0m := flow Z0A (.b0 a0 a1)
def Z3d : Shape := ⟨[.one (.ptr 0)], [.var 144 48 (.agg [.v 22 1 false, .v 24 1 false, .v 24 1 false, .v 32 11 true, .v 35 3 true, .v 33 1 false, .v 4 1 false, .v 4 1 false, .own 22 1, .own 64 2, .own 116 3, .v 42 2 true, .v 22 1 false, .own 108 4, .own 22 5, .v 3 1 false, .v 4 1 false, .v 3 1 false, .v 3 1 false, .v 3 1 false, .v 3 1 false, .v 22 1 false, .v 3 1 false, .v 3 1 false, .v 3 1 false, .v 3 1 false, .own 22 6, .v 3 1 false, .v 4 1 false, .v 3 1 false, .own 62 7, .v 33 1 false, .v 4 1 false, .v 3 1 false, .fn 61 [] [8]]), .row 22 true, .row 64 true, .row 116 true, .row 108 false, .row 22 false, .row 22 true, .row 62 true, .var 58 1 (.one (.own 68 9)), .row 68 true]⟩
noncomputable def Z4D : HMod U := ⟨[[.keep]], [.var k3, .row true, .row true, .row true, .row false, .row false, .row true, .row true, .var [.own 68 11], .row true], Z3d, ⟨[.one (.v 33 1 false)], [.var 144 48 (.agg [.v 22 1 false, .v 24 1 false, .v 24 1 false, .v 32 11 true, .v 35 3 true, .v 33 1 false, .v 4 1 false, .v 4 1 false, .own 22 1, .own 64 2, .own 116 3, .v 42 2 true, .v 22 1 false, .own 108 4, .own 22 5, .v 3 1 false, .v 4 1 false, .v 3 1 false, .v 3 1 false, .v 3 1 false, .v 3 1 false, .v 22 1 false, .v 3 1 false, .v 3 1 false, .v 3 1 false, .v 3 1 false, .own 22 6, .v 3 1 false, .v 4 1 false, .v 3 1 false, .own 62 7, .v 33 1 false, .v 4 1 false, .v 3 1 false, .fn 61 [] [8]]), .row 22 true, .row 64 true, .row 116 true, .row 108 false, .row 22 false, .row 22 true, .row 62 true, .var 58 1 (.one (.own 68 9)), .row 68 true]⟩, true, 1382, fun (y : Z0m) => (((y.q0, ()), ()), ((y.q1.Node.Address, (y.q1.Node.Device, (y.q1.Node.App, (y.q1.Node.Keys, (y.q1.Node.IV, (y.q1.Node.Seq, (y.q1.Node.Relay, (y.q1.Node.Befriends, (y.q1.Node.Transport, (y.q1.Node.Friend.Low, (y.q1.Node.Friend.Bit, (y.q1.Node.Friend.Sent, (y.q1.Node.Friend.Polled, (y.q1.Node.Friend.Counter, (y.q1.Node.Friend.Dropped, (y.q1.Node.Low.Phase, (y.q1.Node.Low.Friend, (y.q1.Node.Low.Bit, (y.q1.Node.Low.Counter, (y.q1.Node.Low.Due, (y.q1.Node.Low.Tries, (y.q1.Node.Low.Told, (y.q1.Node.Low.More, (y.q1.Node.Low.Last, (y.q1.Node.Stored, (y.q1.Node.Up, (y.q1.f_now, ()))))))))))))))))))))))))))), (y.q1.Node.Groups, (y.q1.Node.Cache, (y.q1.Node.Replays, (y.q1.Node.Friend.Queue, (y.q1.Node.Friend.Subs, (y.q1.Node.Low.Subs, (y.q1.Node.Out, ((), (y.q2, ()))))))))))), fun x => Z2j (⟨(⟨x.2.1.1, x.2.1.2.1, x.2.1.2.2.1, x.2.1.2.2.2.1, x.2.1.2.2.2.2.1, x.2.1.2.2.2.2.2.1, x.2.1.2.2.2.2.2.2.1, x.2.1.2.2.2.2.2.2.2.1, x.2.2.1, x.2.2.2.1, x.2.2.2.2.1, x.2.1.2.2.2.2.2.2.2.2.1, (⟨x.2.1.2.2.2.2.2.2.2.2.2.1, x.2.2.2.2.2.1, x.2.2.2.2.2.2.1, x.2.1.2.2.2.2.2.2.2.2.2.2.1, x.2.1.2.2.2.2.2.2.2.2.2.2.2.1, x.2.1.2.2.2.2.2.2.2.2.2.2.2.2.1, x.2.1.2.2.2.2.2.2.2.2.2.2.2.2.2.1, x.2.1.2.2.2.2.2.2.2.2.2.2.2.2.2.2.1⟩ : Zk), (⟨x.2.1.2.2.2.2.2.2.2.2.2.2.2.2.2.2.2.1, x.2.1.2.2.2.2.2.2.2.2.2.2.2.2.2.2.2.2.1, x.2.1.2.2.2.2.2.2.2.2.2.2.2.2.2.2.2.2.2.1, x.2.1.2.2.2.2.2.2.2.2.2.2.2.2.2.2.2.2.2.2.1, x.2.1.2.2.2.2.2.2.2.2.2.2.2.2.2.2.2.2.2.2.2.1, x.2.1.2.2.2.2.2.2.2.2.2.2.2.2.2.2.2.2.2.2.2.2.1, x.2.2.2.2.2.2.2.1, x.2.1.2.2.2.2.2.2.2.2.2.2.2.2.2.2.2.2.2.2.2.2.2.1, x.2.1.2.2.2.2.2.2.2.2.2.2.2.2.2.2.2.2.2.2.2.2.2.2.1, x.2.1.2.2.2.2.2.2.2.2.2.2.2.2.2.2.2.2.2.2.2.2.2.2.2.1⟩ : Zm), x.2.2.2.2.2.2.2.2.1, x.2.1.2.2.2.2.2.2.2.2.2.2.2.2.2.2.2.2.2.2.2.2.2.2.2.2.1, x.2.1.2.2.2.2.2.2.2.2.2.2.2.2.2.2.2.2.2.2.2.2.2.2.2.2.2.1⟩ : Z8), x.2.1.2.2.2.2.2.2.2.2.2.2.2.2.2.2.2.2.2.2.2.2.2.2.2.2.2.2.1⟩ : Zg) x.2.2.2.2.2.2.2.2.2.2.1, ⟨⟨trivial, trivial⟩, ⟨⟨⟨by decide, fun _ => rfl⟩, ⟨⟨by decide, fun _ => rfl⟩, ⟨⟨by decide, fun _ => rfl⟩, ⟨⟨by decide, fun _ => ⟨_, rfl, rfl⟩⟩, ⟨⟨by decide, fun _ => ⟨_, rfl, rfl⟩⟩, ⟨⟨by decide, fun _ => rfl⟩, ⟨⟨by decide, fun _ => rfl⟩, ⟨⟨by decide, fun _ => rfl⟩, ⟨trivial, ⟨trivial, ⟨trivial, ⟨⟨by decide, fun _ => ⟨_, rfl, rfl⟩⟩, ⟨⟨by decide, fun _ => rfl⟩, ⟨trivial, ⟨trivial, ⟨⟨by decide, fun _ => rfl⟩, ⟨⟨by decide, fun _ => rfl⟩, ⟨⟨by decide, fun _ => rfl⟩, ⟨⟨by decide, fun _ => rfl⟩, ⟨⟨by decide, fun _ => rfl⟩, ⟨⟨by decide, fun _ => rfl⟩, ⟨⟨by decide, fun _ => rfl⟩, ⟨⟨by decide, fun _ => rfl⟩, ⟨⟨by decide, fun _ => rfl⟩, ⟨⟨by decide, fun _ => rfl⟩, ⟨⟨by decide, fun _ => rfl⟩, ⟨trivial, ⟨⟨by decide, fun _ => rfl⟩, ⟨⟨by decide, fun _ => rfl⟩, ⟨⟨by decide, fun _ => rfl⟩, ⟨trivial, ⟨⟨by decide, fun _ => rfl⟩, ⟨⟨by decide, fun _ => rfl⟩, ⟨⟨by decide, fun _ => rfl⟩, ⟨trivial, trivial⟩⟩⟩⟩⟩⟩⟩⟩⟩⟩⟩⟩⟩⟩⟩⟩⟩⟩⟩⟩⟩⟩⟩⟩⟩⟩⟩⟩⟩⟩⟩⟩⟩⟩⟩, ⟨by decide, ⟨by decide, ⟨by decide, ⟨by decide, ⟨by decide, ⟨by decide, ⟨by decide, ⟨trivial, ⟨by decide, trivial⟩⟩⟩⟩⟩⟩⟩⟩⟩⟩⟩⟩
def Z38 : Lay := ⟨[0], [[.keep]], [.var k3, .row true, .row true, .row true, .row false, .row false, .row true, .row true, .var [.own 68 11], .row true], ⟨[.one (.ptr 0)], [.var 144 48 (.agg [.v 22 1 false, .v 24 1 false, .v 24 1 false, .v 32 11 true, .v 35 3 true, .v 33 1 false, .v 4 1 false, .v 4 1 false, .own 22 1, .own 64 2, .own 116 3, .v 42 2 true, .v 22 1 false, .own 108 4, .own 22 5, .v 3 1 false, .v 4 1 false, .v 3 1 false, .v 3 1 false, .v 3 1 false, .v 3 1 false, .v 22 1 false, .v 3 1 false, .v 3 1 false, .v 3 1 false, .v 3 1 false, .own 22 6, .v 3 1 false, .v 4 1 false, .v 3 1 false, .own 62 7, .v 33 1 false, .v 4 1 false, .v 3 1 false, .fn 61 [] [8]]), .row 22 true, .row 64 true, .row 116 true, .row 108 false, .row 22 false, .row 22 true, .row 62 true, .var 58 1 (.one (.own 68 9)), .row 68 true]⟩⟩
def Z9f : Nat → Option Lay
  | 3 => some Z38
  | _ => none
noncomputable def Z8R : Z2g → Spot U
  | .b0 a0 a1 => entH Tryz.f149 Z3d (((), ()), ((a0.Node.Address, (a0.Node.Device, (a0.Node.App, (a0.Node.Keys, (a0.Node.IV, (a0.Node.Seq, (a0.Node.Relay, (a0.Node.Befriends, (a0.Node.Transport, (a0.Node.Friend.Low, (a0.Node.Friend.Bit, (a0.Node.Friend.Sent, (a0.Node.Friend.Polled, (a0.Node.Friend.Counter, (a0.Node.Friend.Dropped, (a0.Node.Low.Phase, (a0.Node.Low.Friend, (a0.Node.Low.Bit, (a0.Node.Low.Counter, (a0.Node.Low.Due, (a0.Node.Low.Tries, (a0.Node.Low.Told, (a0.Node.Low.More, (a0.Node.Low.Last, (a0.Node.Stored, (a0.Node.Up, (a0.f_now, ()))))))))))))))))))))))))))), (a0.Node.Groups, (a0.Node.Cache, (a0.Node.Replays, (a0.Node.Friend.Queue, (a0.Node.Friend.Subs, (a0.Node.Low.Subs, (a0.Node.Out, ((), (a1, ())))))))))))
  | .b1 a0 a1 => spL Tryz.f149 [1, 1, 0] Z38 (((), ()), ((a0.Node.Address, (a0.Node.Device, (a0.Node.App, (a0.Node.Keys, (a0.Node.IV, (a0.Node.Seq, (a0.Node.Relay, (a0.Node.Befriends, (a0.Node.Transport, (a0.Node.Friend.Low, (a0.Node.Friend.Bit, (a0.Node.Friend.Sent, (a0.Node.Friend.Polled, (a0.Node.Friend.Counter, (a0.Node.Friend.Dropped, (a0.Node.Low.Phase, (a0.Node.Low.Friend, (a0.Node.Low.Bit, (a0.Node.Low.Counter, (a0.Node.Low.Due, (a0.Node.Low.Tries, (a0.Node.Low.Told, (a0.Node.Low.More, (a0.Node.Low.Last, (a0.Node.Stored, (a0.Node.Up, (a0.f_now, ()))))))))))))))))))))))))))), (a0.Node.Groups, (a0.Node.Cache, (a0.Node.Replays, (a0.Node.Friend.Queue, (a0.Node.Friend.Subs, (a0.Node.Low.Subs, (a0.Node.Out, ((), (a1, ())))))))))))
theorem Z7X : BlkH 149 Tryz.f149 msN hsN Z9f [[.keep]] [.var k3, .row true, .row true, .row true, .row false, .row false, .row true, .row true, .var [.own 68 11], .row true] 10 Z4D Z0A Z8R
  | .b0 _ _ => by kernel_rfl
  | .b1 _ _ => by kernel_rfl
theorem Z8V : HFnOK Tryz.prog B0 149 Z4D := okH Z7X (fun x => .b0 (⟨(⟨x.2.1.1, x.2.1.2.1, x.2.1.2.2.1, x.2.1.2.2.2.1, x.2.1.2.2.2.2.1, x.2.1.2.2.2.2.2.1, x.2.1.2.2.2.2.2.2.1, x.2.1.2.2.2.2.2.2.2.1, x.2.2.1, x.2.2.2.1, x.2.2.2.2.1, x.2.1.2.2.2.2.2.2.2.2.1, (⟨x.2.1.2.2.2.2.2.2.2.2.2.1, x.2.2.2.2.2.1, x.2.2.2.2.2.2.1, x.2.1.2.2.2.2.2.2.2.2.2.2.1, x.2.1.2.2.2.2.2.2.2.2.2.2.2.1, x.2.1.2.2.2.2.2.2.2.2.2.2.2.2.1, x.2.1.2.2.2.2.2.2.2.2.2.2.2.2.2.1, x.2.1.2.2.2.2.2.2.2.2.2.2.2.2.2.2.1⟩ : Zk), (⟨x.2.1.2.2.2.2.2.2.2.2.2.2.2.2.2.2.2.1, x.2.1.2.2.2.2.2.2.2.2.2.2.2.2.2.2.2.2.1, x.2.1.2.2.2.2.2.2.2.2.2.2.2.2.2.2.2.2.2.1, x.2.1.2.2.2.2.2.2.2.2.2.2.2.2.2.2.2.2.2.2.1, x.2.1.2.2.2.2.2.2.2.2.2.2.2.2.2.2.2.2.2.2.2.1, x.2.1.2.2.2.2.2.2.2.2.2.2.2.2.2.2.2.2.2.2.2.2.1, x.2.2.2.2.2.2.2.1, x.2.1.2.2.2.2.2.2.2.2.2.2.2.2.2.2.2.2.2.2.2.2.2.1, x.2.1.2.2.2.2.2.2.2.2.2.2.2.2.2.2.2.2.2.2.2.2.2.2.1, x.2.1.2.2.2.2.2.2.2.2.2.2.2.2.2.2.2.2.2.2.2.2.2.2.2.1⟩ : Zm), x.2.2.2.2.2.2.2.2.1, x.2.1.2.2.2.2.2.2.2.2.2.2.2.2.2.2.2.2.2.2.2.2.2.2.2.2.1, x.2.1.2.2.2.2.2.2.2.2.2.2.2.2.2.2.2.2.2.2.2.2.2.2.2.2.2.1⟩ : Z8), x.2.1.2.2.2.2.2.2.2.2.2.2.2.2.2.2.2.2.2.2.2.2.2.2.2.2.2.2.1⟩ : Zg) x.2.2.2.2.2.2.2.2.2.2.1) (fun x => by kernel_rfl) (by kernel_rfl) Tryz.func149 (by kernel_rfl) (by kernel_rfl) (fun x => by kernel_rfl) (fun x => by kernel_rfl)
end Go.Proofs.YtefmbgacbhifdaaGreat
namespace Go.Proofs.YtefmbgacbhifdaaGreat
open Go Go.Proofs.YtefmbgacbhifdaaGreat.Le
set_option maxRecDepth 100000
inductive Z27 where
  | b0 (a0 : Zd) (a1 : Z2f) (a2 : Zg) (a3 : List Zi)
  | b1 (a0 : Int) (a1 : List Int) (a2 : Zg) (a3 : List Zi) (a4 : Zd) (a5 : Z2f)
noncomputable def Z0z : Z27 → Tr U (ZC ⊕ Z27)
  | .b0 a0 a1 a2 a3 => .chk ((a2.Node.Groups.length == a2.Node.Groups.length) && ((a2.Node.Cache.length == a2.Node.Cache.length) && ((a2.Node.Replays.length == a2.Node.Replays.length) && ((a2.Node.Friend.Queue.length == a2.Node.Friend.Queue.length) && ((a2.Node.Friend.Subs.length == a2.Node.Friend.Subs.length) && ((a2.Node.Low.Subs.length == a2.Node.Low.Subs.length) && ((a2.Node.Out.length == a2.Node.Out.length) && ((a2.Node.Friend.Queue.length == a2.Node.Friend.Queue.length) && ((a2.Node.Friend.Subs.length == a2.Node.Friend.Subs.length) && (a3.length == a3.length)))))))))) ( .bind 1382 (Z2j a2 a3) (fun (y1 : Z0m) => .bind 205 (Z3a a1.Lower) (fun (x2 : (List Int) × Int) => .br (x2.2 != (0 : Int)) ( .chk ((y1.q1.Node.Groups.length == y1.q1.Node.Groups.length) && ((y1.q1.Node.Cache.length == y1.q1.Node.Cache.length) && ((y1.q1.Node.Replays.length == y1.q1.Node.Replays.length) && ((y1.q1.Node.Friend.Queue.length == y1.q1.Node.Friend.Queue.length) && ((y1.q1.Node.Friend.Subs.length == y1.q1.Node.Friend.Subs.length) && ((y1.q1.Node.Low.Subs.length == y1.q1.Node.Low.Subs.length) && ((y1.q1.Node.Out.length == y1.q1.Node.Out.length) && ((y1.q1.Node.Friend.Queue.length == y1.q1.Node.Friend.Queue.length) && ((y1.q1.Node.Friend.Subs.length == y1.q1.Node.Friend.Subs.length) && (y1.q2.length == y1.q2.length)))))))))) ( .leaf (.inl (⟨y1.q1, y1.q2⟩ : ZC)))) ( .br (decide (y1.q0 > (16777215 : Int))) ( .chk ((y1.q1.Node.Groups.length == y1.q1.Node.Groups.length) && ((y1.q1.Node.Cache.length == y1.q1.Node.Cache.length) && ((y1.q1.Node.Replays.length == y1.q1.Node.Replays.length) && ((y1.q1.Node.Friend.Queue.length == y1.q1.Node.Friend.Queue.length) && ((y1.q1.Node.Friend.Subs.length == y1.q1.Node.Friend.Subs.length) && ((y1.q1.Node.Low.Subs.length == y1.q1.Node.Low.Subs.length) && ((y1.q1.Node.Out.length == y1.q1.Node.Out.length) && ((y1.q1.Node.Friend.Queue.length == y1.q1.Node.Friend.Queue.length) && ((y1.q1.Node.Friend.Subs.length == y1.q1.Node.Friend.Subs.length) && (y1.q2.length == y1.q2.length)))))))))) ( .leaf (.inl (⟨y1.q1, y1.q2⟩ : ZC)))) ( .chk ((y1.q1.Node.Groups.length == y1.q1.Node.Groups.length) && ((y1.q1.Node.Cache.length == y1.q1.Node.Cache.length) && ((y1.q1.Node.Replays.length == y1.q1.Node.Replays.length) && ((y1.q1.Node.Friend.Queue.length == y1.q1.Node.Friend.Queue.length) && ((y1.q1.Node.Friend.Subs.length == y1.q1.Node.Friend.Subs.length) && ((y1.q1.Node.Low.Subs.length == y1.q1.Node.Low.Subs.length) && ((y1.q1.Node.Out.length == y1.q1.Node.Out.length) && ((y1.q1.Node.Friend.Queue.length == y1.q1.Node.Friend.Queue.length) && ((y1.q1.Node.Friend.Subs.length == y1.q1.Node.Friend.Subs.length) && (y1.q2.length == y1.q2.length)))))))))) ( .leaf (.inr (.b1 y1.q0 x2.1 y1.q1 y1.q2 a0 a1))))))))
  | .b1 a0 a1 a2 a3 a4 a5 => .bind 33 (Z6o a2.Node.IV) (fun (x1 : Int) => .chk ((a2.Node.Groups.length == a2.Node.Groups.length) && ((a2.Node.Cache.length == a2.Node.Cache.length) && ((a2.Node.Replays.length == a2.Node.Replays.length) && ((a2.Node.Friend.Queue.length == a2.Node.Friend.Queue.length) && ((a2.Node.Friend.Subs.length == a2.Node.Friend.Subs.length) && ((a2.Node.Low.Subs.length == a2.Node.Low.Subs.length) && ((a2.Node.Out.length == a2.Node.Out.length) && ((a2.Node.Friend.Queue.length == a2.Node.Friend.Queue.length) && ((a2.Node.Friend.Subs.length == a2.Node.Friend.Subs.length) && (a3.length == a3.length)))))))))) ( .bind 1383 (Z2z a4 (⟨x1, a4.NID, a5.Lower.Control, a5.TTL, a0, a5.Src, a5.Dst, a1⟩ : Zc) a2.f_now a2 a3) (fun (y2 : Z0d) => .br y2.q0 ( .chk ((y2.q1.Node.Groups.length == y2.q1.Node.Groups.length) && ((y2.q1.Node.Cache.length == y2.q1.Node.Cache.length) && ((y2.q1.Node.Replays.length == y2.q1.Node.Replays.length) && ((y2.q1.Node.Friend.Queue.length == y2.q1.Node.Friend.Queue.length) && ((y2.q1.Node.Friend.Subs.length == y2.q1.Node.Friend.Subs.length) && ((y2.q1.Node.Low.Subs.length == y2.q1.Node.Low.Subs.length) && ((y2.q1.Node.Out.length == y2.q1.Node.Out.length) && ((y2.q1.Node.Friend.Queue.length == y2.q1.Node.Friend.Queue.length) && ((y2.q1.Node.Friend.Subs.length == y2.q1.Node.Friend.Subs.length) && (y2.q2.length == y2.q2.length)))))))))) ( .bind 1384 (Z2d (⟨x1, a4.NID, a5.Lower.Control, a5.TTL, a0, a5.Src, a5.Dst, a1⟩ : Zc) a5.Lower y2.q1 y2.q2) (fun (y3 : Z00) => .chk ((y3.q0.Node.Groups.length == y3.q0.Node.Groups.length) && ((y3.q0.Node.Cache.length == y3.q0.Node.Cache.length) && ((y3.q0.Node.Replays.length == y3.q0.Node.Replays.length) && ((y3.q0.Node.Friend.Queue.length == y3.q0.Node.Friend.Queue.length) && ((y3.q0.Node.Friend.Subs.length == y3.q0.Node.Friend.Subs.length) && ((y3.q0.Node.Low.Subs.length == y3.q0.Node.Low.Subs.length) && ((y3.q0.Node.Out.length == y3.q0.Node.Out.length) && ((y3.q0.Node.Friend.Queue.length == y3.q0.Node.Friend.Queue.length) && ((y3.q0.Node.Friend.Subs.length == y3.q0.Node.Friend.Subs.length) && (y3.q1.length == y3.q1.length)))))))))) ( .leaf (.inl (⟨y3.q0, y3.q1⟩ : ZC)))))) ( .chk ((y2.q1.Node.Groups.length == y2.q1.Node.Groups.length) && ((y2.q1.Node.Cache.length == y2.q1.Node.Cache.length) && ((y2.q1.Node.Replays.length == y2.q1.Node.Replays.length) && ((y2.q1.Node.Friend.Queue.length == y2.q1.Node.Friend.Queue.length) && ((y2.q1.Node.Friend.Subs.length == y2.q1.Node.Friend.Subs.length) && ((y2.q1.Node.Low.Subs.length == y2.q1.Node.Low.Subs.length) && ((y2.q1.Node.Out.length == y2.q1.Node.Out.length) && ((y2.q1.Node.Friend.Queue.length == y2.q1.Node.Friend.Queue.length) && ((y2.q1.Node.Friend.Subs.length == y2.q1.Node.Friend.Subs.length) && (y2.q2.length == y2.q2.length)))))))))) ( .leaf (.inl (⟨y2.q1, y2.q2⟩ : ZC)))))))
noncomputable def Z2i (a0 : Zd) (a1 : Z2f) (a2 : Zg) (a3 : List Zi) : Option ZC := flow Z0z (.b0 a0 a1 a2 a3)
def Z3j : Shape := ⟨[.one (.ptr 0), .agg [.v 30 5 true], .agg [.v 149 13 true]], [.var 144 48 (.agg [.v 22 1 false, .v 24 1 false, .v 24 1 false, .v 32 11 true, .v 35 3 true, .v 33 1 false, .v 4 1 false, .v 4 1 false, .own 22 1, .own 64 2, .own 116 3, .v 42 2 true, .v 22 1 false, .own 108 4, .own 22 5, .v 3 1 false, .v 4 1 false, .v 3 1 false, .v 3 1 false, .v 3 1 false, .v 3 1 false, .v 22 1 false, .v 3 1 false, .v 3 1 false, .v 3 1 false, .v 3 1 false, .own 22 6, .v 3 1 false, .v 4 1 false, .v 3 1 false, .own 62 7, .v 33 1 false, .v 4 1 false, .v 3 1 false, .fn 61 [] [8]]), .row 22 true, .row 64 true, .row 116 true, .row 108 false, .row 22 false, .row 22 true, .row 62 true, .var 58 1 (.one (.own 68 9)), .row 68 true]⟩
noncomputable def Z4w : HMod U := ⟨[[.keep], k10, k11], [.var k3, .row true, .row true, .row true, .row false, .row false, .row true, .row true, .var [.own 68 11], .row true], Z3j, ⟨[], [.var 144 48 (.agg [.v 22 1 false, .v 24 1 false, .v 24 1 false, .v 32 11 true, .v 35 3 true, .v 33 1 false, .v 4 1 false, .v 4 1 false, .own 22 1, .own 64 2, .own 116 3, .v 42 2 true, .v 22 1 false, .own 108 4, .own 22 5, .v 3 1 false, .v 4 1 false, .v 3 1 false, .v 3 1 false, .v 3 1 false, .v 3 1 false, .v 22 1 false, .v 3 1 false, .v 3 1 false, .v 3 1 false, .v 3 1 false, .own 22 6, .v 3 1 false, .v 4 1 false, .v 3 1 false, .own 62 7, .v 33 1 false, .v 4 1 false, .v 3 1 false, .fn 61 [] [8]]), .row 22 true, .row 64 true, .row 116 true, .row 108 false, .row 22 false, .row 22 true, .row 62 true, .var 58 1 (.one (.own 68 9)), .row 68 true]⟩, false, 1381, fun (y : ZC) => ((), ((y.q0.Node.Address, (y.q0.Node.Device, (y.q0.Node.App, (y.q0.Node.Keys, (y.q0.Node.IV, (y.q0.Node.Seq, (y.q0.Node.Relay, (y.q0.Node.Befriends, (y.q0.Node.Transport, (y.q0.Node.Friend.Low, (y.q0.Node.Friend.Bit, (y.q0.Node.Friend.Sent, (y.q0.Node.Friend.Polled, (y.q0.Node.Friend.Counter, (y.q0.Node.Friend.Dropped, (y.q0.Node.Low.Phase, (y.q0.Node.Low.Friend, (y.q0.Node.Low.Bit, (y.q0.Node.Low.Counter, (y.q0.Node.Low.Due, (y.q0.Node.Low.Tries, (y.q0.Node.Low.Told, (y.q0.Node.Low.More, (y.q0.Node.Low.Last, (y.q0.Node.Stored, (y.q0.Node.Up, (y.q0.f_now, ()))))))))))))))))))))))))))), (y.q0.Node.Groups, (y.q0.Node.Cache, (y.q0.Node.Replays, (y.q0.Node.Friend.Queue, (y.q0.Node.Friend.Subs, (y.q0.Node.Low.Subs, (y.q0.Node.Out, ((), (y.q1, ()))))))))))), fun x => Z2i x.1.2.1.1 x.1.2.2.1.1 (⟨(⟨x.2.1.1, x.2.1.2.1, x.2.1.2.2.1, x.2.1.2.2.2.1, x.2.1.2.2.2.2.1, x.2.1.2.2.2.2.2.1, x.2.1.2.2.2.2.2.2.1, x.2.1.2.2.2.2.2.2.2.1, x.2.2.1, x.2.2.2.1, x.2.2.2.2.1, x.2.1.2.2.2.2.2.2.2.2.1, (⟨x.2.1.2.2.2.2.2.2.2.2.2.1, x.2.2.2.2.2.1, x.2.2.2.2.2.2.1, x.2.1.2.2.2.2.2.2.2.2.2.2.1, x.2.1.2.2.2.2.2.2.2.2.2.2.2.1, x.2.1.2.2.2.2.2.2.2.2.2.2.2.2.1, x.2.1.2.2.2.2.2.2.2.2.2.2.2.2.2.1, x.2.1.2.2.2.2.2.2.2.2.2.2.2.2.2.2.1⟩ : Zk), (⟨x.2.1.2.2.2.2.2.2.2.2.2.2.2.2.2.2.2.1, x.2.1.2.2.2.2.2.2.2.2.2.2.2.2.2.2.2.2.1, x.2.1.2.2.2.2.2.2.2.2.2.2.2.2.2.2.2.2.2.1, x.2.1.2.2.2.2.2.2.2.2.2.2.2.2.2.2.2.2.2.2.1, x.2.1.2.2.2.2.2.2.2.2.2.2.2.2.2.2.2.2.2.2.2.1, x.2.1.2.2.2.2.2.2.2.2.2.2.2.2.2.2.2.2.2.2.2.2.1, x.2.2.2.2.2.2.2.1, x.2.1.2.2.2.2.2.2.2.2.2.2.2.2.2.2.2.2.2.2.2.2.2.1, x.2.1.2.2.2.2.2.2.2.2.2.2.2.2.2.2.2.2.2.2.2.2.2.2.1, x.2.1.2.2.2.2.2.2.2.2.2.2.2.2.2.2.2.2.2.2.2.2.2.2.2.1⟩ : Zm), x.2.2.2.2.2.2.2.2.1, x.2.1.2.2.2.2.2.2.2.2.2.2.2.2.2.2.2.2.2.2.2.2.2.2.2.2.1, x.2.1.2.2.2.2.2.2.2.2.2.2.2.2.2.2.2.2.2.2.2.2.2.2.2.2.2.1⟩ : Z8), x.2.1.2.2.2.2.2.2.2.2.2.2.2.2.2.2.2.2.2.2.2.2.2.2.2.2.2.2.1⟩ : Zg) x.2.2.2.2.2.2.2.2.2.2.1, ⟨⟨trivial, ⟨⟨⟨by decide, fun _ => ⟨_, rfl, rfl⟩⟩, trivial⟩, ⟨⟨⟨by decide, fun _ => ⟨_, rfl, rfl⟩⟩, trivial⟩, trivial⟩⟩⟩, ⟨⟨⟨by decide, fun _ => rfl⟩, ⟨⟨by decide, fun _ => rfl⟩, ⟨⟨by decide, fun _ => rfl⟩, ⟨⟨by decide, fun _ => ⟨_, rfl, rfl⟩⟩, ⟨⟨by decide, fun _ => ⟨_, rfl, rfl⟩⟩, ⟨⟨by decide, fun _ => rfl⟩, ⟨⟨by decide, fun _ => rfl⟩, ⟨⟨by decide, fun _ => rfl⟩, ⟨trivial, ⟨trivial, ⟨trivial, ⟨⟨by decide, fun _ => ⟨_, rfl, rfl⟩⟩, ⟨⟨by decide, fun _ => rfl⟩, ⟨trivial, ⟨trivial, ⟨⟨by decide, fun _ => rfl⟩, ⟨⟨by decide, fun _ => rfl⟩, ⟨⟨by decide, fun _ => rfl⟩, ⟨⟨by decide, fun _ => rfl⟩, ⟨⟨by decide, fun _ => rfl⟩, ⟨⟨by decide, fun _ => rfl⟩, ⟨⟨by decide, fun _ => rfl⟩, ⟨⟨by decide, fun _ => rfl⟩, ⟨⟨by decide, fun _ => rfl⟩, ⟨⟨by decide, fun _ => rfl⟩, ⟨⟨by decide, fun _ => rfl⟩, ⟨trivial, ⟨⟨by decide, fun _ => rfl⟩, ⟨⟨by decide, fun _ => rfl⟩, ⟨⟨by decide, fun _ => rfl⟩, ⟨trivial, ⟨⟨by decide, fun _ => rfl⟩, ⟨⟨by decide, fun _ => rfl⟩, ⟨⟨by decide, fun _ => rfl⟩, ⟨trivial, trivial⟩⟩⟩⟩⟩⟩⟩⟩⟩⟩⟩⟩⟩⟩⟩⟩⟩⟩⟩⟩⟩⟩⟩⟩⟩⟩⟩⟩⟩⟩⟩⟩⟩⟩⟩, ⟨by decide, ⟨by decide, ⟨by decide, ⟨by decide, ⟨by decide, ⟨by decide, ⟨by decide, ⟨trivial, ⟨by decide, trivial⟩⟩⟩⟩⟩⟩⟩⟩⟩⟩⟩⟩
def Z3s : Lay := ⟨[0, 4, 5, 6, 7], [[.keep], [.keep], [.keep], [.keep], [.s 5 1]], [.var k3, .row true, .row true, .row true, .row false, .row false, .row true, .row true, .var [.own 68 11], .row true, .var k10, .var k11], ⟨[.one (.ptr 0), .one (.ptr 10), .one (.ptr 11), .one (.v 33 1 false), .one (.v 27 1 false)], [.var 144 48 (.agg [.v 22 1 false, .v 24 1 false, .v 24 1 false, .v 32 11 true, .v 35 3 true, .v 33 1 false, .v 4 1 false, .v 4 1 false, .own 22 1, .own 64 2, .own 116 3, .v 42 2 true, .v 22 1 false, .own 108 4, .own 22 5, .v 3 1 false, .v 4 1 false, .v 3 1 false, .v 3 1 false, .v 3 1 false, .v 3 1 false, .v 22 1 false, .v 3 1 false, .v 3 1 false, .v 3 1 false, .v 3 1 false, .own 22 6, .v 3 1 false, .v 4 1 false, .v 3 1 false, .own 62 7, .v 33 1 false, .v 4 1 false, .v 3 1 false, .fn 61 [] [8]]), .row 22 true, .row 64 true, .row 116 true, .row 108 false, .row 22 false, .row 22 true, .row 62 true, .var 58 1 (.one (.own 68 9)), .row 68 true, .var 30 5 (.agg [.v 30 5 true]), .var 149 13 (.agg [.v 149 13 true])]⟩⟩
def Z9Z : Nat → Option Lay
  | 4 => some Z3s
  | _ => none
noncomputable def Z8Q : Z27 → Spot U
  | .b0 a0 a1 a2 a3 => entH Tryz.f67 Z3j (((), ((a0, ()), ((a1, ()), ()))), ((a2.Node.Address, (a2.Node.Device, (a2.Node.App, (a2.Node.Keys, (a2.Node.IV, (a2.Node.Seq, (a2.Node.Relay, (a2.Node.Befriends, (a2.Node.Transport, (a2.Node.Friend.Low, (a2.Node.Friend.Bit, (a2.Node.Friend.Sent, (a2.Node.Friend.Polled, (a2.Node.Friend.Counter, (a2.Node.Friend.Dropped, (a2.Node.Low.Phase, (a2.Node.Low.Friend, (a2.Node.Low.Bit, (a2.Node.Low.Counter, (a2.Node.Low.Due, (a2.Node.Low.Tries, (a2.Node.Low.Told, (a2.Node.Low.More, (a2.Node.Low.Last, (a2.Node.Stored, (a2.Node.Up, (a2.f_now, ()))))))))))))))))))))))))))), (a2.Node.Groups, (a2.Node.Cache, (a2.Node.Replays, (a2.Node.Friend.Queue, (a2.Node.Friend.Subs, (a2.Node.Low.Subs, (a2.Node.Out, ((), (a3, ())))))))))))
  | .b1 a0 a1 a2 a3 a4 a5 => spL Tryz.f67 [1, 1, 1, 1, 0] Z3s (((), ((), ((), ((a0, ()), ((a1, ()), ()))))), ((a2.Node.Address, (a2.Node.Device, (a2.Node.App, (a2.Node.Keys, (a2.Node.IV, (a2.Node.Seq, (a2.Node.Relay, (a2.Node.Befriends, (a2.Node.Transport, (a2.Node.Friend.Low, (a2.Node.Friend.Bit, (a2.Node.Friend.Sent, (a2.Node.Friend.Polled, (a2.Node.Friend.Counter, (a2.Node.Friend.Dropped, (a2.Node.Low.Phase, (a2.Node.Low.Friend, (a2.Node.Low.Bit, (a2.Node.Low.Counter, (a2.Node.Low.Due, (a2.Node.Low.Tries, (a2.Node.Low.Told, (a2.Node.Low.More, (a2.Node.Low.Last, (a2.Node.Stored, (a2.Node.Up, (a2.f_now, ()))))))))))))))))))))))))))), (a2.Node.Groups, (a2.Node.Cache, (a2.Node.Replays, (a2.Node.Friend.Queue, (a2.Node.Friend.Subs, (a2.Node.Low.Subs, (a2.Node.Out, ((), (a3, ((a4, ()), ((a5, ()), ())))))))))))))
theorem Z7F : BlkH 67 Tryz.f67 (mc Zdn (mc Zbs msN)) (hc [] Z9o (hc [] Z91 (hc [] Z8V hsN))) Z9Z [] [.var k3, .row true, .row true, .row true, .row false, .row false, .row true, .row true, .var [.own 68 11], .row true] 10 Z4w Z0z Z8Q
  | .b0 _ _ _ _ => by kernel_rfl
  | .b1 _ _ _ _ _ _ => by kernel_rfl
theorem Z90 : HFnOK Tryz.prog B0 67 Z4w := okH Z7F (fun x => .b0 x.1.2.1.1 x.1.2.2.1.1 (⟨(⟨x.2.1.1, x.2.1.2.1, x.2.1.2.2.1, x.2.1.2.2.2.1, x.2.1.2.2.2.2.1, x.2.1.2.2.2.2.2.1, x.2.1.2.2.2.2.2.2.1, x.2.1.2.2.2.2.2.2.2.1, x.2.2.1, x.2.2.2.1, x.2.2.2.2.1, x.2.1.2.2.2.2.2.2.2.2.1, (⟨x.2.1.2.2.2.2.2.2.2.2.2.1, x.2.2.2.2.2.1, x.2.2.2.2.2.2.1, x.2.1.2.2.2.2.2.2.2.2.2.2.1, x.2.1.2.2.2.2.2.2.2.2.2.2.2.1, x.2.1.2.2.2.2.2.2.2.2.2.2.2.2.1, x.2.1.2.2.2.2.2.2.2.2.2.2.2.2.2.1, x.2.1.2.2.2.2.2.2.2.2.2.2.2.2.2.2.1⟩ : Zk), (⟨x.2.1.2.2.2.2.2.2.2.2.2.2.2.2.2.2.2.1, x.2.1.2.2.2.2.2.2.2.2.2.2.2.2.2.2.2.2.1, x.2.1.2.2.2.2.2.2.2.2.2.2.2.2.2.2.2.2.2.1, x.2.1.2.2.2.2.2.2.2.2.2.2.2.2.2.2.2.2.2.2.1, x.2.1.2.2.2.2.2.2.2.2.2.2.2.2.2.2.2.2.2.2.2.1, x.2.1.2.2.2.2.2.2.2.2.2.2.2.2.2.2.2.2.2.2.2.2.1, x.2.2.2.2.2.2.2.1, x.2.1.2.2.2.2.2.2.2.2.2.2.2.2.2.2.2.2.2.2.2.2.2.1, x.2.1.2.2.2.2.2.2.2.2.2.2.2.2.2.2.2.2.2.2.2.2.2.2.1, x.2.1.2.2.2.2.2.2.2.2.2.2.2.2.2.2.2.2.2.2.2.2.2.2.2.1⟩ : Zm), x.2.2.2.2.2.2.2.2.1, x.2.1.2.2.2.2.2.2.2.2.2.2.2.2.2.2.2.2.2.2.2.2.2.2.2.2.1, x.2.1.2.2.2.2.2.2.2.2.2.2.2.2.2.2.2.2.2.2.2.2.2.2.2.2.2.1⟩ : Z8), x.2.1.2.2.2.2.2.2.2.2.2.2.2.2.2.2.2.2.2.2.2.2.2.2.2.2.2.2.1⟩ : Zg) x.2.2.2.2.2.2.2.2.2.2.1) (fun x => by kernel_rfl) (by kernel_rfl) Tryz.func67 (by kernel_rfl) (by kernel_rfl) (fun x => by kernel_rfl) (fun x => by kernel_rfl)
inductive Z2L where
  | b0 (a0 : Int) (a1 : Bool) (a2 : Int) (a3 : List Int) (a4 : Zg) (a5 : List Zi)
  | b1 (a0 : Int) (a1 : Bool) (a2 : Int) (a3 : List Int) (a4 : Zg) (a5 : List Zi)
  | b2 (a0 : Int) (a1 : Bool) (a2 : Int) (a3 : List Int) (a4 : Zg) (a5 : List Zi)
  | b3 (a0 a1 : Int) (a2 : List Z5) (a3 a4 : Int) (a5 : Zg) (a6 : List Zi) (a7 : List Z6) (a8 : List Z9)
noncomputable def ZE : Z2L → Tr U (Zu ⊕ Z2L)
  | .b0 a0 a1 a2 a3 a4 a5 => .br (!a4.Node.Up) ( .chk (a4.Node.Transport.Out.length == a4.Node.Transport.Out.length) ( .chk (a4.Node.Transport.In.length == a4.Node.Transport.In.length) ( .chk ((a4.Node.Groups.length == a4.Node.Groups.length) && ((a4.Node.Cache.length == a4.Node.Cache.length) && ((a4.Node.Replays.length == a4.Node.Replays.length) && ((a4.Node.Friend.Queue.length == a4.Node.Friend.Queue.length) && ((a4.Node.Friend.Subs.length == a4.Node.Friend.Subs.length) && ((a4.Node.Low.Subs.length == a4.Node.Low.Subs.length) && ((a4.Node.Out.length == a4.Node.Out.length) && ((a4.Node.Transport.Out.length == a4.Node.Transport.Out.length) && ((a4.Node.Transport.In.length == a4.Node.Transport.In.length) && ((a4.Node.Friend.Queue.length == a4.Node.Friend.Queue.length) && ((a4.Node.Friend.Subs.length == a4.Node.Friend.Subs.length) && (a5.length == a5.length)))))))))))) ( .leaf (.inl (⟨(9 : Int), a4, a5, a4.Node.Transport.Out, a4.Node.Transport.In⟩ : Zu)))))) ( .bind 4 (Z1g a0) (fun (x1 : Bool) => .br (!x1) ( .bind 4 (Z2C a0) (fun (x2 : Bool) => .br (!x2) ( .chk (a4.Node.Transport.Out.length == a4.Node.Transport.Out.length) ( .chk (a4.Node.Transport.In.length == a4.Node.Transport.In.length) ( .chk ((a4.Node.Groups.length == a4.Node.Groups.length) && ((a4.Node.Cache.length == a4.Node.Cache.length) && ((a4.Node.Replays.length == a4.Node.Replays.length) && ((a4.Node.Friend.Queue.length == a4.Node.Friend.Queue.length) && ((a4.Node.Friend.Subs.length == a4.Node.Friend.Subs.length) && ((a4.Node.Low.Subs.length == a4.Node.Low.Subs.length) && ((a4.Node.Out.length == a4.Node.Out.length) && ((a4.Node.Transport.Out.length == a4.Node.Transport.Out.length) && ((a4.Node.Transport.In.length == a4.Node.Transport.In.length) && ((a4.Node.Friend.Queue.length == a4.Node.Friend.Queue.length) && ((a4.Node.Friend.Subs.length == a4.Node.Friend.Subs.length) && (a5.length == a5.length)))))))))))) ( .leaf (.inl (⟨(1 : Int), a4, a5, a4.Node.Transport.Out, a4.Node.Transport.In⟩ : Zu)))))) ( .chk ((a4.Node.Groups.length == a4.Node.Groups.length) && ((a4.Node.Cache.length == a4.Node.Cache.length) && ((a4.Node.Replays.length == a4.Node.Replays.length) && ((a4.Node.Transport.Out.length == a4.Node.Transport.Out.length) && ((a4.Node.Transport.In.length == a4.Node.Transport.In.length) && ((a4.Node.Friend.Queue.length == a4.Node.Friend.Queue.length) && ((a4.Node.Friend.Subs.length == a4.Node.Friend.Subs.length) && ((a4.Node.Low.Subs.length == a4.Node.Low.Subs.length) && ((a4.Node.Out.length == a4.Node.Out.length) && (a5.length == a5.length)))))))))) ( .leaf (.inr (.b1 a0 a1 a2 a3 a4 a5)))))) ( .chk ((a4.Node.Groups.length == a4.Node.Groups.length) && ((a4.Node.Cache.length == a4.Node.Cache.length) && ((a4.Node.Replays.length == a4.Node.Replays.length) && ((a4.Node.Transport.Out.length == a4.Node.Transport.Out.length) && ((a4.Node.Transport.In.length == a4.Node.Transport.In.length) && ((a4.Node.Friend.Queue.length == a4.Node.Friend.Queue.length) && ((a4.Node.Friend.Subs.length == a4.Node.Friend.Subs.length) && ((a4.Node.Low.Subs.length == a4.Node.Low.Subs.length) && ((a4.Node.Out.length == a4.Node.Out.length) && (a5.length == a5.length)))))))))) ( .leaf (.inr (.b1 a0 a1 a2 a3 a4 a5))))))
  | .b1 a0 a1 a2 a3 a4 a5 => .br (decide (a2 < (0 : Int))) ( .chk (a4.Node.Transport.Out.length == a4.Node.Transport.Out.length) ( .chk (a4.Node.Transport.In.length == a4.Node.Transport.In.length) ( .chk ((a4.Node.Groups.length == a4.Node.Groups.length) && ((a4.Node.Cache.length == a4.Node.Cache.length) && ((a4.Node.Replays.length == a4.Node.Replays.length) && ((a4.Node.Friend.Queue.length == a4.Node.Friend.Queue.length) && ((a4.Node.Friend.Subs.length == a4.Node.Friend.Subs.length) && ((a4.Node.Low.Subs.length == a4.Node.Low.Subs.length) && ((a4.Node.Out.length == a4.Node.Out.length) && ((a4.Node.Transport.Out.length == a4.Node.Transport.Out.length) && ((a4.Node.Transport.In.length == a4.Node.Transport.In.length) && ((a4.Node.Friend.Queue.length == a4.Node.Friend.Queue.length) && ((a4.Node.Friend.Subs.length == a4.Node.Friend.Subs.length) && (a5.length == a5.length)))))))))))) ( .leaf (.inl (⟨(5 : Int), a4, a5, a4.Node.Transport.Out, a4.Node.Transport.In⟩ : Zu)))))) ( .br (decide (a2 > (127 : Int))) ( .chk (a4.Node.Transport.Out.length == a4.Node.Transport.Out.length) ( .chk (a4.Node.Transport.In.length == a4.Node.Transport.In.length) ( .chk ((a4.Node.Groups.length == a4.Node.Groups.length) && ((a4.Node.Cache.length == a4.Node.Cache.length) && ((a4.Node.Replays.length == a4.Node.Replays.length) && ((a4.Node.Friend.Queue.length == a4.Node.Friend.Queue.length) && ((a4.Node.Friend.Subs.length == a4.Node.Friend.Subs.length) && ((a4.Node.Low.Subs.length == a4.Node.Low.Subs.length) && ((a4.Node.Out.length == a4.Node.Out.length) && ((a4.Node.Transport.Out.length == a4.Node.Transport.Out.length) && ((a4.Node.Transport.In.length == a4.Node.Transport.In.length) && ((a4.Node.Friend.Queue.length == a4.Node.Friend.Queue.length) && ((a4.Node.Friend.Subs.length == a4.Node.Friend.Subs.length) && (a5.length == a5.length)))))))))))) ( .leaf (.inl (⟨(5 : Int), a4, a5, a4.Node.Transport.Out, a4.Node.Transport.In⟩ : Zu)))))) ( .chk ((a4.Node.Groups.length == a4.Node.Groups.length) && ((a4.Node.Cache.length == a4.Node.Cache.length) && ((a4.Node.Replays.length == a4.Node.Replays.length) && ((a4.Node.Transport.Out.length == a4.Node.Transport.Out.length) && ((a4.Node.Transport.In.length == a4.Node.Transport.In.length) && ((a4.Node.Friend.Queue.length == a4.Node.Friend.Queue.length) && ((a4.Node.Friend.Subs.length == a4.Node.Friend.Subs.length) && ((a4.Node.Low.Subs.length == a4.Node.Low.Subs.length) && ((a4.Node.Out.length == a4.Node.Out.length) && (a5.length == a5.length)))))))))) ( .leaf (.inr (.b2 a0 a1 a2 a3 a4 a5)))))
  | .b2 a0 a1 a2 a3 a4 a5 => .br ((↑a3.length : Int) == (0 : Int)) ( .chk (a4.Node.Transport.Out.length == a4.Node.Transport.Out.length) ( .chk (a4.Node.Transport.In.length == a4.Node.Transport.In.length) ( .chk ((a4.Node.Groups.length == a4.Node.Groups.length) && ((a4.Node.Cache.length == a4.Node.Cache.length) && ((a4.Node.Replays.length == a4.Node.Replays.length) && ((a4.Node.Friend.Queue.length == a4.Node.Friend.Queue.length) && ((a4.Node.Friend.Subs.length == a4.Node.Friend.Subs.length) && ((a4.Node.Low.Subs.length == a4.Node.Low.Subs.length) && ((a4.Node.Out.length == a4.Node.Out.length) && ((a4.Node.Transport.Out.length == a4.Node.Transport.Out.length) && ((a4.Node.Transport.In.length == a4.Node.Transport.In.length) && ((a4.Node.Friend.Queue.length == a4.Node.Friend.Queue.length) && ((a4.Node.Friend.Subs.length == a4.Node.Friend.Subs.length) && (a5.length == a5.length)))))))))))) ( .leaf (.inl (⟨(1 : Int), a4, a5, a4.Node.Transport.Out, a4.Node.Transport.In⟩ : Zu)))))) ( .br (decide ((↑a3.length : Int) > (380 : Int))) ( .chk (a4.Node.Transport.Out.length == a4.Node.Transport.Out.length) ( .chk (a4.Node.Transport.In.length == a4.Node.Transport.In.length) ( .chk ((a4.Node.Groups.length == a4.Node.Groups.length) && ((a4.Node.Cache.length == a4.Node.Cache.length) && ((a4.Node.Replays.length == a4.Node.Replays.length) && ((a4.Node.Friend.Queue.length == a4.Node.Friend.Queue.length) && ((a4.Node.Friend.Subs.length == a4.Node.Friend.Subs.length) && ((a4.Node.Low.Subs.length == a4.Node.Low.Subs.length) && ((a4.Node.Out.length == a4.Node.Out.length) && ((a4.Node.Transport.Out.length == a4.Node.Transport.Out.length) && ((a4.Node.Transport.In.length == a4.Node.Transport.In.length) && ((a4.Node.Friend.Queue.length == a4.Node.Friend.Queue.length) && ((a4.Node.Friend.Subs.length == a4.Node.Friend.Subs.length) && (a5.length == a5.length)))))))))))) ( .leaf (.inl (⟨(4 : Int), a4, a5, a4.Node.Transport.Out, a4.Node.Transport.In⟩ : Zu)))))) ( .bind 33 (Z6o a4.Node.IV) (fun (x1 : Int) => .bind 24 (Z3e (⟨(⟨a4.Node.Address, a4.Node.Device, a4.Node.App, a4.Node.Keys, a4.Node.IV, a4.Node.Seq, a4.Node.Relay, a4.Node.Befriends, (⟨a4.Node.Friend.Low, a4.Node.Friend.Bit, a4.Node.Friend.Sent, a4.Node.Friend.Polled, a4.Node.Friend.Counter, a4.Node.Friend.Dropped⟩ : Z6s), (⟨a4.Node.Low.Phase, a4.Node.Low.Friend, a4.Node.Low.Bit, a4.Node.Low.Counter, a4.Node.Low.Due, a4.Node.Low.Tries, a4.Node.Low.Told, a4.Node.Low.More, a4.Node.Low.Last⟩ : Z4i), a4.Node.Stored, a4.Node.Up⟩ : Zai), a4.f_now⟩ : Z05) a1) (fun (x2 : Int) => .bind 27 (Z3W x2 a1 (⟨a4.Node.Address, x1, a4.Node.Seq⟩ : Za) a0 a3) (fun (x3 : List Int) => .chk (a4.Node.Transport.Out.length == a4.Node.Transport.Out.length) ( .chk (a4.Node.Transport.In.length == a4.Node.Transport.In.length) ( .bind 113 (Z4J a4.Node.Transport (⟨a4.Node.Address, a0, a1, a2, (⟨a4.Node.Address, x1, a4.Node.Seq⟩ : Za), x3⟩ : Zt) a4.f_now) (fun (x4 : Z7 × (List Z5) × Int) => .br (x4.2.2 != (0 : Int)) ( .chk (a4.Node.Transport.Out.length == a4.Node.Transport.Out.length) ( .chk (a4.Node.Transport.In.length == a4.Node.Transport.In.length) ( .chk ((a4.Node.Groups.length == a4.Node.Groups.length) && ((a4.Node.Cache.length == a4.Node.Cache.length) && ((a4.Node.Replays.length == a4.Node.Replays.length) && ((a4.Node.Friend.Queue.length == a4.Node.Friend.Queue.length) && ((a4.Node.Friend.Subs.length == a4.Node.Friend.Subs.length) && ((a4.Node.Low.Subs.length == a4.Node.Low.Subs.length) && ((a4.Node.Out.length == a4.Node.Out.length) && ((a4.Node.Transport.Out.length == a4.Node.Transport.Out.length) && ((a4.Node.Transport.In.length == a4.Node.Transport.In.length) && ((a4.Node.Friend.Queue.length == a4.Node.Friend.Queue.length) && ((a4.Node.Friend.Subs.length == a4.Node.Friend.Subs.length) && (a5.length == a5.length)))))))))))) ( .leaf (.inl (⟨x4.2.2, a4, a5, a4.Node.Transport.Out, a4.Node.Transport.In⟩ : Zu)))))) ( .chk ((a4.Node.Groups.length == a4.Node.Groups.length) && ((a4.Node.Cache.length == a4.Node.Cache.length) && ((a4.Node.Replays.length == a4.Node.Replays.length) && ((a4.Node.Friend.Queue.length == a4.Node.Friend.Queue.length) && ((a4.Node.Friend.Subs.length == a4.Node.Friend.Subs.length) && ((a4.Node.Low.Subs.length == a4.Node.Low.Subs.length) && ((a4.Node.Out.length == a4.Node.Out.length) && ((a4.Node.Transport.Out.length == a4.Node.Transport.Out.length) && ((a4.Node.Transport.In.length == a4.Node.Transport.In.length) && ((a4.Node.Friend.Queue.length == a4.Node.Friend.Queue.length) && ((a4.Node.Friend.Subs.length == a4.Node.Friend.Subs.length) && (a5.length == a5.length)))))))))))) ( .leaf (.inr (.b3 a0 a2 x4.2.1 (↑x4.2.1.length : Int) (0 : Int) (⟨({ a4.Node with Transport := x4.1 } : Z8), a4.f_now⟩ : Zg) a5 a4.Node.Transport.Out a4.Node.Transport.In))))))))))))
  | .b3 a0 a1 a2 a3 a4 a5 a6 a7 a8 => .br (decide (a4 < a3)) ( .chk (decide (0 ≤ a4 ∧ a4 < (↑a2.length : Int))) ( .bind 106 (a2[(Int.toNat a4)]?) (fun (x1 : Z5) => .bind 30 (Z23 (⟨(⟨a5.Node.Address, a5.Node.Device, a5.Node.App, a5.Node.Keys, a5.Node.IV, a5.Node.Seq, a5.Node.Relay, a5.Node.Befriends, (⟨a5.Node.Friend.Low, a5.Node.Friend.Bit, a5.Node.Friend.Sent, a5.Node.Friend.Polled, a5.Node.Friend.Counter, a5.Node.Friend.Dropped⟩ : Z6s), (⟨a5.Node.Low.Phase, a5.Node.Low.Friend, a5.Node.Low.Bit, a5.Node.Low.Counter, a5.Node.Low.Due, a5.Node.Low.Tries, a5.Node.Low.Told, a5.Node.Low.More, a5.Node.Low.Last⟩ : Z4i), a5.Node.Stored, a5.Node.Up⟩ : Zai), a5.f_now⟩ : Z05)) (fun (x2 : Zd) => .chk ((a5.Node.Groups.length == a5.Node.Groups.length) && ((a5.Node.Cache.length == a5.Node.Cache.length) && ((a5.Node.Replays.length == a5.Node.Replays.length) && ((a5.Node.Friend.Queue.length == a5.Node.Friend.Queue.length) && ((a5.Node.Friend.Subs.length == a5.Node.Friend.Subs.length) && ((a5.Node.Low.Subs.length == a5.Node.Low.Subs.length) && ((a5.Node.Out.length == a5.Node.Out.length) && ((a5.Node.Friend.Queue.length == a5.Node.Friend.Queue.length) && ((a5.Node.Friend.Subs.length == a5.Node.Friend.Subs.length) && (a6.length == a6.length)))))))))) ( .bind 1381 (Z2i x2 (⟨a5.Node.Address, a0, a1, x1⟩ : Z2f) a5 a6) (fun (y3 : ZC) => .chk ((y3.q0.Node.Groups.length == y3.q0.Node.Groups.length) && ((y3.q0.Node.Cache.length == y3.q0.Node.Cache.length) && ((y3.q0.Node.Replays.length == y3.q0.Node.Replays.length) && ((y3.q0.Node.Friend.Queue.length == y3.q0.Node.Friend.Queue.length) && ((y3.q0.Node.Friend.Subs.length == y3.q0.Node.Friend.Subs.length) && ((y3.q0.Node.Low.Subs.length == y3.q0.Node.Low.Subs.length) && ((y3.q0.Node.Out.length == y3.q0.Node.Out.length) && ((a7.length == a7.length) && ((a8.length == a8.length) && ((y3.q0.Node.Friend.Queue.length == y3.q0.Node.Friend.Queue.length) && ((y3.q0.Node.Friend.Subs.length == y3.q0.Node.Friend.Subs.length) && (y3.q1.length == y3.q1.length)))))))))))) ( .leaf (.inr (.b3 a0 a1 a2 a3 (w64 (a4 + (1 : Int))) y3.q0 y3.q1 a7 a8))))))))) ( .chk ((a5.Node.Groups.length == a5.Node.Groups.length) && ((a5.Node.Cache.length == a5.Node.Cache.length) && ((a5.Node.Replays.length == a5.Node.Replays.length) && ((a5.Node.Friend.Queue.length == a5.Node.Friend.Queue.length) && ((a5.Node.Friend.Subs.length == a5.Node.Friend.Subs.length) && ((a5.Node.Low.Subs.length == a5.Node.Low.Subs.length) && ((a5.Node.Out.length == a5.Node.Out.length) && ((a7.length == a7.length) && ((a8.length == a8.length) && ((a5.Node.Friend.Queue.length == a5.Node.Friend.Queue.length) && ((a5.Node.Friend.Subs.length == a5.Node.Friend.Subs.length) && (a6.length == a6.length)))))))))))) ( .leaf (.inl (⟨(0 : Int), a5, a6, a7, a8⟩ : Zu))))
noncomputable def Z2R (a0 : Int) (a1 : Bool) (a2 : Int) (a3 : List Int) (a4 : Zg) (a5 : List Zi) : Option Zu := flow ZE (.b0 a0 a1 a2 a3 a4 a5)
def Z4r : Shape := ⟨[.one (.ptr 0), .one (.v 22 1 false), .one (.v 4 1 false), .one (.v 3 1 false), .one (.v 27 1 false)], [.var 144 48 (.agg [.v 22 1 false, .v 24 1 false, .v 24 1 false, .v 32 11 true, .v 35 3 true, .v 33 1 false, .v 4 1 false, .v 4 1 false, .own 22 1, .own 64 2, .own 116 3, .own 101 4, .own 104 5, .v 22 1 false, .own 108 6, .own 22 7, .v 3 1 false, .v 4 1 false, .v 3 1 false, .v 3 1 false, .v 3 1 false, .v 3 1 false, .v 22 1 false, .v 3 1 false, .v 3 1 false, .v 3 1 false, .v 3 1 false, .own 22 8, .v 3 1 false, .v 4 1 false, .v 3 1 false, .own 62 9, .v 33 1 false, .v 4 1 false, .v 3 1 false, .fn 61 [] [10]]), .row 22 true, .row 64 true, .row 116 true, .row 101 true, .row 104 true, .row 108 true, .row 22 true, .row 22 true, .row 62 true, .var 58 1 (.one (.own 68 11)), .row 68 true]⟩
noncomputable def Z5N : HMod U := ⟨[[.keep], [.keep], [.keep], [.keep], [.s 5 1]], [.var k9, .row true, .row true, .row true, .row true, .row true, .row true, .row true, .row true, .row true, .var [.own 68 11], .row true], Z4r, ⟨[.one (.v 51 1 false)], [.var 144 48 (.agg [.v 22 1 false, .v 24 1 false, .v 24 1 false, .v 32 11 true, .v 35 3 true, .v 33 1 false, .v 4 1 false, .v 4 1 false, .own 22 1, .own 64 2, .own 116 3, .v 42 2 true, .v 22 1 false, .own 108 6, .own 22 7, .v 3 1 false, .v 4 1 false, .v 3 1 false, .v 3 1 false, .v 3 1 false, .v 3 1 false, .v 22 1 false, .v 3 1 false, .v 3 1 false, .v 3 1 false, .v 3 1 false, .own 22 8, .v 3 1 false, .v 4 1 false, .v 3 1 false, .own 62 9, .v 33 1 false, .v 4 1 false, .v 3 1 false, .fn 61 [] [10]]), .row 22 true, .row 64 true, .row 116 true, .row 101 false, .row 104 false, .row 108 false, .row 22 false, .row 22 true, .row 62 true, .var 58 1 (.one (.own 68 11)), .row 68 true]⟩, true, 1376, fun (y : Zu) => (((y.q0, ()), ()), ((y.q1.Node.Address, (y.q1.Node.Device, (y.q1.Node.App, (y.q1.Node.Keys, (y.q1.Node.IV, (y.q1.Node.Seq, (y.q1.Node.Relay, (y.q1.Node.Befriends, (y.q1.Node.Transport, (y.q1.Node.Friend.Low, (y.q1.Node.Friend.Bit, (y.q1.Node.Friend.Sent, (y.q1.Node.Friend.Polled, (y.q1.Node.Friend.Counter, (y.q1.Node.Friend.Dropped, (y.q1.Node.Low.Phase, (y.q1.Node.Low.Friend, (y.q1.Node.Low.Bit, (y.q1.Node.Low.Counter, (y.q1.Node.Low.Due, (y.q1.Node.Low.Tries, (y.q1.Node.Low.Told, (y.q1.Node.Low.More, (y.q1.Node.Low.Last, (y.q1.Node.Stored, (y.q1.Node.Up, (y.q1.f_now, ()))))))))))))))))))))))))))), (y.q1.Node.Groups, (y.q1.Node.Cache, (y.q1.Node.Replays, (y.q3, (y.q4, (y.q1.Node.Friend.Queue, (y.q1.Node.Friend.Subs, (y.q1.Node.Low.Subs, (y.q1.Node.Out, ((), (y.q2, ()))))))))))))), fun x => Z2R x.1.2.1.1 x.1.2.2.1.1 x.1.2.2.2.1.1 x.1.2.2.2.2.1.1 (⟨(⟨x.2.1.1, x.2.1.2.1, x.2.1.2.2.1, x.2.1.2.2.2.1, x.2.1.2.2.2.2.1, x.2.1.2.2.2.2.2.1, x.2.1.2.2.2.2.2.2.1, x.2.1.2.2.2.2.2.2.2.1, x.2.2.1, x.2.2.2.1, x.2.2.2.2.1, (⟨x.2.2.2.2.2.1, x.2.2.2.2.2.2.1⟩ : Z7), (⟨x.2.1.2.2.2.2.2.2.2.2.1, x.2.2.2.2.2.2.2.1, x.2.2.2.2.2.2.2.2.1, x.2.1.2.2.2.2.2.2.2.2.2.1, x.2.1.2.2.2.2.2.2.2.2.2.2.1, x.2.1.2.2.2.2.2.2.2.2.2.2.2.1, x.2.1.2.2.2.2.2.2.2.2.2.2.2.2.1, x.2.1.2.2.2.2.2.2.2.2.2.2.2.2.2.1⟩ : Zk), (⟨x.2.1.2.2.2.2.2.2.2.2.2.2.2.2.2.2.1, x.2.1.2.2.2.2.2.2.2.2.2.2.2.2.2.2.2.1, x.2.1.2.2.2.2.2.2.2.2.2.2.2.2.2.2.2.2.1, x.2.1.2.2.2.2.2.2.2.2.2.2.2.2.2.2.2.2.2.1, x.2.1.2.2.2.2.2.2.2.2.2.2.2.2.2.2.2.2.2.2.1, x.2.1.2.2.2.2.2.2.2.2.2.2.2.2.2.2.2.2.2.2.2.1, x.2.2.2.2.2.2.2.2.2.1, x.2.1.2.2.2.2.2.2.2.2.2.2.2.2.2.2.2.2.2.2.2.2.1, x.2.1.2.2.2.2.2.2.2.2.2.2.2.2.2.2.2.2.2.2.2.2.2.1, x.2.1.2.2.2.2.2.2.2.2.2.2.2.2.2.2.2.2.2.2.2.2.2.2.1⟩ : Zm), x.2.2.2.2.2.2.2.2.2.2.1, x.2.1.2.2.2.2.2.2.2.2.2.2.2.2.2.2.2.2.2.2.2.2.2.2.2.1, x.2.1.2.2.2.2.2.2.2.2.2.2.2.2.2.2.2.2.2.2.2.2.2.2.2.2.1⟩ : Z8), x.2.1.2.2.2.2.2.2.2.2.2.2.2.2.2.2.2.2.2.2.2.2.2.2.2.2.2.1⟩ : Zg) x.2.2.2.2.2.2.2.2.2.2.2.2.1, ⟨⟨trivial, ⟨⟨by decide, fun _ => rfl⟩, ⟨⟨by decide, fun _ => rfl⟩, ⟨⟨by decide, fun _ => rfl⟩, ⟨⟨by decide, fun _ => rfl⟩, trivial⟩⟩⟩⟩⟩, ⟨⟨⟨by decide, fun _ => rfl⟩, ⟨⟨by decide, fun _ => rfl⟩, ⟨⟨by decide, fun _ => rfl⟩, ⟨⟨by decide, fun _ => ⟨_, rfl, rfl⟩⟩, ⟨⟨by decide, fun _ => ⟨_, rfl, rfl⟩⟩, ⟨⟨by decide, fun _ => rfl⟩, ⟨⟨by decide, fun _ => rfl⟩, ⟨⟨by decide, fun _ => rfl⟩, ⟨trivial, ⟨trivial, ⟨trivial, ⟨trivial, ⟨trivial, ⟨⟨by decide, fun _ => rfl⟩, ⟨trivial, ⟨trivial, ⟨⟨by decide, fun _ => rfl⟩, ⟨⟨by decide, fun _ => rfl⟩, ⟨⟨by decide, fun _ => rfl⟩, ⟨⟨by decide, fun _ => rfl⟩, ⟨⟨by decide, fun _ => rfl⟩, ⟨⟨by decide, fun _ => rfl⟩, ⟨⟨by decide, fun _ => rfl⟩, ⟨⟨by decide, fun _ => rfl⟩, ⟨⟨by decide, fun _ => rfl⟩, ⟨⟨by decide, fun _ => rfl⟩, ⟨⟨by decide, fun _ => rfl⟩, ⟨trivial, ⟨⟨by decide, fun _ => rfl⟩, ⟨⟨by decide, fun _ => rfl⟩, ⟨⟨by decide, fun _ => rfl⟩, ⟨trivial, ⟨⟨by decide, fun _ => rfl⟩, ⟨⟨by decide, fun _ => rfl⟩, ⟨⟨by decide, fun _ => rfl⟩, ⟨trivial, trivial⟩⟩⟩⟩⟩⟩⟩⟩⟩⟩⟩⟩⟩⟩⟩⟩⟩⟩⟩⟩⟩⟩⟩⟩⟩⟩⟩⟩⟩⟩⟩⟩⟩⟩⟩⟩, ⟨by decide, ⟨by decide, ⟨by decide, ⟨by decide, ⟨by decide, ⟨by decide, ⟨by decide, ⟨by decide, ⟨by decide, ⟨trivial, ⟨by decide, trivial⟩⟩⟩⟩⟩⟩⟩⟩⟩⟩⟩⟩⟩⟩
def Z4A : Lay := ⟨[0, 1, 2, 3, 4], [[.keep], [.keep], [.keep], [.keep], [.s 5 1]], [.var k9, .row true, .row true, .row true, .row true, .row true, .row true, .row true, .row true, .row true, .var [.own 68 11], .row true], ⟨[.one (.ptr 0), .one (.v 22 1 false), .one (.v 4 1 false), .one (.v 3 1 false), .one (.v 27 1 false)], [.var 144 48 (.agg [.v 22 1 false, .v 24 1 false, .v 24 1 false, .v 32 11 true, .v 35 3 true, .v 33 1 false, .v 4 1 false, .v 4 1 false, .own 22 1, .own 64 2, .own 116 3, .own 101 4, .own 104 5, .v 22 1 false, .own 108 6, .own 22 7, .v 3 1 false, .v 4 1 false, .v 3 1 false, .v 3 1 false, .v 3 1 false, .v 3 1 false, .v 22 1 false, .v 3 1 false, .v 3 1 false, .v 3 1 false, .v 3 1 false, .own 22 8, .v 3 1 false, .v 4 1 false, .v 3 1 false, .own 62 9, .v 33 1 false, .v 4 1 false, .v 3 1 false, .fn 61 [] [10]]), .row 22 true, .row 64 true, .row 116 true, .row 101 true, .row 104 true, .row 108 true, .row 22 true, .row 22 true, .row 62 true, .var 58 1 (.one (.own 68 11)), .row 68 true]⟩⟩
def Z4n : Lay := ⟨[0, 1, 2, 3, 4], [[.keep], [.keep], [.keep], [.keep], [.s 5 1]], [.var k9, .row true, .row true, .row true, .row true, .row true, .row true, .row true, .row true, .row true, .var [.own 68 11], .row true], ⟨[.one (.ptr 0), .one (.v 22 1 false), .one (.v 4 1 false), .one (.v 3 1 false), .one (.v 27 1 false)], [.var 144 48 (.agg [.v 22 1 false, .v 24 1 false, .v 24 1 false, .v 32 11 true, .v 35 3 true, .v 33 1 false, .v 4 1 false, .v 4 1 false, .own 22 1, .own 64 2, .own 116 3, .own 101 4, .own 104 5, .v 22 1 false, .own 108 6, .own 22 7, .v 3 1 false, .v 4 1 false, .v 3 1 false, .v 3 1 false, .v 3 1 false, .v 3 1 false, .v 22 1 false, .v 3 1 false, .v 3 1 false, .v 3 1 false, .v 3 1 false, .own 22 8, .v 3 1 false, .v 4 1 false, .v 3 1 false, .own 62 9, .v 33 1 false, .v 4 1 false, .v 3 1 false, .fn 61 [] [10]]), .row 22 true, .row 64 true, .row 116 true, .row 101 true, .row 104 true, .row 108 true, .row 22 true, .row 22 true, .row 62 true, .var 58 1 (.one (.own 68 11)), .row 68 true]⟩⟩
def Z4t : Lay := ⟨[0, 1, 3, 107, 108, 109], [[.keep], [.keep], [.keep], [.s 106 10], [.keep], [.keep]], [.var k3, .row true, .row true, .row true, .row false, .row false, .row false, .row false, .row true, .row true, .var [.own 68 11], .row true], ⟨[.one (.ptr 0), .one (.v 22 1 false), .one (.v 3 1 false), .one (.v 112 1 false), .one (.v 3 1 false), .one (.v 3 1 false)], [.var 144 48 (.agg [.v 22 1 false, .v 24 1 false, .v 24 1 false, .v 32 11 true, .v 35 3 true, .v 33 1 false, .v 4 1 false, .v 4 1 false, .own 22 1, .own 64 2, .own 116 3, .v 42 2 true, .v 22 1 false, .own 108 6, .own 22 7, .v 3 1 false, .v 4 1 false, .v 3 1 false, .v 3 1 false, .v 3 1 false, .v 3 1 false, .v 22 1 false, .v 3 1 false, .v 3 1 false, .v 3 1 false, .v 3 1 false, .own 22 8, .v 3 1 false, .v 4 1 false, .v 3 1 false, .own 62 9, .v 33 1 false, .v 4 1 false, .v 3 1 false, .fn 61 [] [10]]), .row 22 true, .row 64 true, .row 116 true, .row 101 false, .row 104 false, .row 108 false, .row 22 false, .row 22 true, .row 62 true, .var 58 1 (.one (.own 68 11)), .row 68 true]⟩⟩
def Zbo : Nat → Option Lay
  | 5 => some Z4A
  | 7 => some Z4n
  | 18 => some Z4t
  | _ => none
noncomputable def Zan : Z2L → Spot U
  | .b0 a0 a1 a2 a3 a4 a5 => entH Tryz.f27 Z4r (((), ((a0, ()), ((a1, ()), ((a2, ()), ((a3, ()), ()))))), ((a4.Node.Address, (a4.Node.Device, (a4.Node.App, (a4.Node.Keys, (a4.Node.IV, (a4.Node.Seq, (a4.Node.Relay, (a4.Node.Befriends, (a4.Node.Friend.Low, (a4.Node.Friend.Bit, (a4.Node.Friend.Sent, (a4.Node.Friend.Polled, (a4.Node.Friend.Counter, (a4.Node.Friend.Dropped, (a4.Node.Low.Phase, (a4.Node.Low.Friend, (a4.Node.Low.Bit, (a4.Node.Low.Counter, (a4.Node.Low.Due, (a4.Node.Low.Tries, (a4.Node.Low.Told, (a4.Node.Low.More, (a4.Node.Low.Last, (a4.Node.Stored, (a4.Node.Up, (a4.f_now, ())))))))))))))))))))))))))), (a4.Node.Groups, (a4.Node.Cache, (a4.Node.Replays, (a4.Node.Transport.Out, (a4.Node.Transport.In, (a4.Node.Friend.Queue, (a4.Node.Friend.Subs, (a4.Node.Low.Subs, (a4.Node.Out, ((), (a5, ())))))))))))))
  | .b1 a0 a1 a2 a3 a4 a5 => spL Tryz.f27 [1, 0, 0, 1, 1, 1, 1, 0] Z4A (((), ((a0, ()), ((a1, ()), ((a2, ()), ((a3, ()), ()))))), ((a4.Node.Address, (a4.Node.Device, (a4.Node.App, (a4.Node.Keys, (a4.Node.IV, (a4.Node.Seq, (a4.Node.Relay, (a4.Node.Befriends, (a4.Node.Friend.Low, (a4.Node.Friend.Bit, (a4.Node.Friend.Sent, (a4.Node.Friend.Polled, (a4.Node.Friend.Counter, (a4.Node.Friend.Dropped, (a4.Node.Low.Phase, (a4.Node.Low.Friend, (a4.Node.Low.Bit, (a4.Node.Low.Counter, (a4.Node.Low.Due, (a4.Node.Low.Tries, (a4.Node.Low.Told, (a4.Node.Low.More, (a4.Node.Low.Last, (a4.Node.Stored, (a4.Node.Up, (a4.f_now, ())))))))))))))))))))))))))), (a4.Node.Groups, (a4.Node.Cache, (a4.Node.Replays, (a4.Node.Transport.Out, (a4.Node.Transport.In, (a4.Node.Friend.Queue, (a4.Node.Friend.Subs, (a4.Node.Low.Subs, (a4.Node.Out, ((), (a5, ())))))))))))))
  | .b2 a0 a1 a2 a3 a4 a5 => spL Tryz.f27 [1, 0, 0, 1, 1, 1, 1, 1, 1, 0] Z4n (((), ((a0, ()), ((a1, ()), ((a2, ()), ((a3, ()), ()))))), ((a4.Node.Address, (a4.Node.Device, (a4.Node.App, (a4.Node.Keys, (a4.Node.IV, (a4.Node.Seq, (a4.Node.Relay, (a4.Node.Befriends, (a4.Node.Friend.Low, (a4.Node.Friend.Bit, (a4.Node.Friend.Sent, (a4.Node.Friend.Polled, (a4.Node.Friend.Counter, (a4.Node.Friend.Dropped, (a4.Node.Low.Phase, (a4.Node.Low.Friend, (a4.Node.Low.Bit, (a4.Node.Low.Counter, (a4.Node.Low.Due, (a4.Node.Low.Tries, (a4.Node.Low.Told, (a4.Node.Low.More, (a4.Node.Low.Last, (a4.Node.Stored, (a4.Node.Up, (a4.f_now, ())))))))))))))))))))))))))), (a4.Node.Groups, (a4.Node.Cache, (a4.Node.Replays, (a4.Node.Transport.Out, (a4.Node.Transport.In, (a4.Node.Friend.Queue, (a4.Node.Friend.Subs, (a4.Node.Low.Subs, (a4.Node.Out, ((), (a5, ())))))))))))))
  | .b3 a0 a1 a2 a3 a4 a5 a6 a7 a8 => spL Tryz.f27 [1, 1, 1, 1, 1, 1, 1, 0, 1, 0, 0, 0] Z4t (((), ((a0, ()), ((a1, ()), ((a2, ()), ((a3, ()), ((a4, ()), ())))))), ((a5.Node.Address, (a5.Node.Device, (a5.Node.App, (a5.Node.Keys, (a5.Node.IV, (a5.Node.Seq, (a5.Node.Relay, (a5.Node.Befriends, (a5.Node.Transport, (a5.Node.Friend.Low, (a5.Node.Friend.Bit, (a5.Node.Friend.Sent, (a5.Node.Friend.Polled, (a5.Node.Friend.Counter, (a5.Node.Friend.Dropped, (a5.Node.Low.Phase, (a5.Node.Low.Friend, (a5.Node.Low.Bit, (a5.Node.Low.Counter, (a5.Node.Low.Due, (a5.Node.Low.Tries, (a5.Node.Low.Told, (a5.Node.Low.More, (a5.Node.Low.Last, (a5.Node.Stored, (a5.Node.Up, (a5.f_now, ()))))))))))))))))))))))))))), (a5.Node.Groups, (a5.Node.Cache, (a5.Node.Replays, (a7, (a8, (a5.Node.Friend.Queue, (a5.Node.Friend.Subs, (a5.Node.Low.Subs, (a5.Node.Out, ((), (a6, ())))))))))))))
theorem Z97 : BlkH 27 Tryz.f27 (mc Z4e (mc Z5B (mc Zdn (mc Zdw (mc Zc9 (mc Ze5 (mc Z8B msN))))))) (hc [] Z90 hsN) Zbo [[.keep]] [.var k3, .row true, .row true, .row true, .row false, .row false, .row false, .row false, .row true, .row true, .var [.own 68 11], .row true] 12 Z5N ZE Zan
  | .b0 _ _ _ _ _ _ => by kernel_rfl
  | .b1 _ _ _ _ _ _ => by kernel_rfl
  | .b2 _ _ _ _ _ _ => by kernel_rfl
  | .b3 _ _ _ _ _ _ _ _ _ => by kernel_rfl
theorem Zar : HFnOK Tryz.prog B0 27 Z5N := okH Z97 (fun x => .b0 x.1.2.1.1 x.1.2.2.1.1 x.1.2.2.2.1.1 x.1.2.2.2.2.1.1 (⟨(⟨x.2.1.1, x.2.1.2.1, x.2.1.2.2.1, x.2.1.2.2.2.1, x.2.1.2.2.2.2.1, x.2.1.2.2.2.2.2.1, x.2.1.2.2.2.2.2.2.1, x.2.1.2.2.2.2.2.2.2.1, x.2.2.1, x.2.2.2.1, x.2.2.2.2.1, (⟨x.2.2.2.2.2.1, x.2.2.2.2.2.2.1⟩ : Z7), (⟨x.2.1.2.2.2.2.2.2.2.2.1, x.2.2.2.2.2.2.2.1, x.2.2.2.2.2.2.2.2.1, x.2.1.2.2.2.2.2.2.2.2.2.1, x.2.1.2.2.2.2.2.2.2.2.2.2.1, x.2.1.2.2.2.2.2.2.2.2.2.2.2.1, x.2.1.2.2.2.2.2.2.2.2.2.2.2.2.1, x.2.1.2.2.2.2.2.2.2.2.2.2.2.2.2.1⟩ : Zk), (⟨x.2.1.2.2.2.2.2.2.2.2.2.2.2.2.2.2.1, x.2.1.2.2.2.2.2.2.2.2.2.2.2.2.2.2.2.1, x.2.1.2.2.2.2.2.2.2.2.2.2.2.2.2.2.2.2.1, x.2.1.2.2.2.2.2.2.2.2.2.2.2.2.2.2.2.2.2.1, x.2.1.2.2.2.2.2.2.2.2.2.2.2.2.2.2.2.2.2.2.1, x.2.1.2.2.2.2.2.2.2.2.2.2.2.2.2.2.2.2.2.2.2.1, x.2.2.2.2.2.2.2.2.2.1, x.2.1.2.2.2.2.2.2.2.2.2.2.2.2.2.2.2.2.2.2.2.2.1, x.2.1.2.2.2.2.2.2.2.2.2.2.2.2.2.2.2.2.2.2.2.2.2.1, x.2.1.2.2.2.2.2.2.2.2.2.2.2.2.2.2.2.2.2.2.2.2.2.2.1⟩ : Zm), x.2.2.2.2.2.2.2.2.2.2.1, x.2.1.2.2.2.2.2.2.2.2.2.2.2.2.2.2.2.2.2.2.2.2.2.2.2.1, x.2.1.2.2.2.2.2.2.2.2.2.2.2.2.2.2.2.2.2.2.2.2.2.2.2.2.1⟩ : Z8), x.2.1.2.2.2.2.2.2.2.2.2.2.2.2.2.2.2.2.2.2.2.2.2.2.2.2.2.1⟩ : Zg) x.2.2.2.2.2.2.2.2.2.2.2.2.1) (fun x => by kernel_rfl) (by kernel_rfl) Tryz.func27 (by kernel_rfl) (by kernel_rfl) (fun x => by kernel_rfl) (fun x => by kernel_rfl)
end Go.Proofs.YtefmbgacbhifdaaGreat
