/-
  A part of the proof.
-/
import Derived.Test.YtefmbgacbhifdaaGreatHUn
import Derived.RangeFuncWrites
import Derived.RangeFuncBox
import Derived.RangeFuncLeaves
import Derived.WalkKit
import Derived.OwnWalkIn
import Derived.TacticsInMore
import Derived.RegionIn
import Derived.LoopNIn
import Derived.LoopIn
import Derived.Shelf.Abstract
import Derived.IntWalk
import Derived.Lib.Hide
import Derived.Laws.Closers25b
import Derived.RangeFuncCalls
namespace Go.Proofs.YtefmbgacbhifdaaGreat
open Go Go.Proofs.YtefmbgacbhifdaaGreat.Le
set_option maxRecDepth 100000
inductive ZbA where
 | b0 (a0 : Int)
noncomputable def ZaQ : ZbA -> Tr U (Bool ⊕ ZbA)
 | .b0 a0 => .br (decide (a0 > (0 : Int))) ( .leaf (.inl (decide (a0 <= (32767 : Int))))) ( .leaf (.inl false))
noncomputable def Z2p (a0 : Int) : Option Bool := ZT ZaQ (.b0 a0)
noncomputable def ZoT : Mod U := ⟨[22], 4, fun x => Z2p x.1, by decide⟩
noncomputable def Zmj : ZbA -> Z14 U
 | .b0 a0 => Z26 Tryz.f23 [22] (a0, ())
theorem Zlk : Z28 23 Tryz.f23 msN hsN AN 4 ZaQ Zmj
 | .b0 _ => by kernel_rfl
theorem Z6M : Z1p Tryz.prog B0 23 ZoT := okP Zlk (fun x => .b0 x.1) (by kernel_rfl) Tryz.func23 (by kernel_rfl) (by kernel_rfl) (fun _ => rfl) (fun _ => rfl)
inductive ZcQ where
 | b0 (a0 a1 : Int)
noncomputable def Z9a : ZcQ -> Tr U (Int ⊕ ZcQ)
 | .b0 a0 a1 => .br (decide (a1 <= (0 : Int))) ( .leaf (.inl (0 : Int))) ( .br (decide (a1 >= (64 : Int))) ( .leaf (.inl a0)) ( .chk (decide (0 <= a1)) ( .leaf (.inl (bits .and .u64 a0 (IntKind.wrap .u64 ((IntKind.wrap .u64 ((1 : Int) * 2 ^ (min (Int.toNat a1) (IntKind.bits .u64)))) - (1 : Int))))))))
noncomputable def Z2X (a0 a1 : Int) : Option Int := ZT Z9a (.b0 a0 a1)
noncomputable def Zrx : Mod U := ⟨[23, 3], 23, fun x => Z2X x.1 x.2.1, by decide⟩
noncomputable def Zoo : ZcQ -> Z14 U
 | .b0 a0 a1 => Z26 Tryz.f294 [23, 3] (a0, a1, ())
theorem ZmP : Z28 294 Tryz.f294 msN hsN AN 23 Z9a Zoo
 | .b0 _ _ => by kernel_rfl
theorem Zhb : Z1p Tryz.prog B0 294 Zrx := okP ZmP (fun x => .b0 x.1 x.2.1) (by kernel_rfl) Tryz.func294 (by kernel_rfl) (by kernel_rfl) (fun _ => rfl) (fun _ => rfl)
inductive Zbm where
 | b0 (a0 : Int)
noncomputable def Z84 : Zbm -> Tr U (Z0m ⊕ Zbm)
 | .b0 a0 => .bind 23 (Z2X a0 (32 : Int)) (fun (x1 : Int) => .leaf (.inl (⟨(IntKind.wrap .u32 ((Int.fdiv a0 (2 ^ (32 : Nat))))), (IntKind.wrap .u32 (x1))⟩ : Z0m)))
noncomputable def Z7W (a0 : Int) : Option Z0m := ZT Z84 (.b0 a0)
noncomputable def Zo7 : Mod U := ⟨[23], 325, fun x => Z7W x.1, by decide⟩
noncomputable def Zm2 : Zbm -> Z14 U
 | .b0 a0 => Z26 Tryz.f275 [23] (a0, ())
theorem Zkl : Z28 275 Tryz.f275 (mc Zhb msN) hsN AN 325 Z84 Zm2
 | .b0 _ => by kernel_rfl
theorem ZmJ : Z1p Tryz.prog B0 275 Zo7 := okP Zkl (fun x => .b0 x.1) (by kernel_rfl) Tryz.func275 (by kernel_rfl) (by kernel_rfl) (fun _ => rfl) (fun _ => rfl)
inductive Z2N where
 | b0 (a0 a1 : Int)
noncomputable def Z2L : Z2N -> Tr U (Int ⊕ Z2N)
 | .b0 a0 a1 => .chk (decide (0 <= (bits .and .u64 (IntKind.wrap .u64 (a1)) (63 : Int)))) ( .chk (decide (0 <= (IntKind.wrap .u64 ((64 : Int) - (bits .and .u64 (IntKind.wrap .u64 (a1)) (63 : Int)))))) ( .leaf (.inl (bits .or .u64 (IntKind.wrap .u64 (a0 * 2 ^ (min (Int.toNat (bits .and .u64 (IntKind.wrap .u64 (a1)) (63 : Int))) (IntKind.bits .u64)))) (Int.fdiv a0 (2 ^ (min (Int.toNat (IntKind.wrap .u64 ((64 : Int) - (bits .and .u64 (IntKind.wrap .u64 (a1)) (63 : Int))))) (IntKind.bits .u64))))))))
noncomputable def Z0t (a0 a1 : Int) : Option Int := ZT Z2L (.b0 a0 a1)
noncomputable def Zaz : Mod U := ⟨[23, 3], 23, fun x => Z0t x.1 x.2.1, by decide⟩
noncomputable def Z9B : Z2N -> Z14 U
 | .b0 a0 a1 => Z26 Tryz.f295 [23, 3] (a0, a1, ())
theorem Z98 : Z28 295 Tryz.f295 msN hsN AN 23 Z2L Z9B
 | .b0 _ _ => by kernel_rfl
theorem Z9L : Z1p Tryz.prog B0 295 Zaz := okP Z98 (fun x => .b0 x.1 x.2.1) (by kernel_rfl) Tryz.func295 (by kernel_rfl) (by kernel_rfl) (fun _ => rfl) (fun _ => rfl)
inductive Z2O where
 | b0 (a0 a1 : Int)
noncomputable def Z2S : Z2O -> Tr U (Int ⊕ Z2O)
 | .b0 a0 a1 => .chk (decide (0 <= (bits .and .u64 (IntKind.wrap .u64 (a1)) (31 : Int)))) ( .chk (decide (0 <= (IntKind.wrap .u64 ((32 : Int) - (bits .and .u64 (IntKind.wrap .u64 (a1)) (31 : Int)))))) ( .leaf (.inl (bits .or .u32 (IntKind.wrap .u32 (a0 * 2 ^ (min (Int.toNat (bits .and .u64 (IntKind.wrap .u64 (a1)) (31 : Int))) (IntKind.bits .u32)))) (Int.fdiv a0 (2 ^ (min (Int.toNat (IntKind.wrap .u64 ((32 : Int) - (bits .and .u64 (IntKind.wrap .u64 (a1)) (31 : Int))))) (IntKind.bits .u32))))))))
noncomputable def Z02 (a0 a1 : Int) : Option Int := ZT Z2S (.b0 a0 a1)
noncomputable def Zan : Mod U := ⟨[33, 3], 33, fun x => Z02 x.1 x.2.1, by decide⟩
noncomputable def Z9N : Z2O -> Z14 U
 | .b0 a0 a1 => Z26 Tryz.f296 [33, 3] (a0, a1, ())
theorem Z96 : Z28 296 Tryz.f296 msN hsN AN 33 Z2S Z9N
 | .b0 _ _ => by kernel_rfl
theorem Z9W : Z1p Tryz.prog B0 296 Zan := okP Z96 (fun x => .b0 x.1 x.2.1) (by kernel_rfl) Tryz.func296 (by kernel_rfl) (by kernel_rfl) (fun _ => rfl) (fun _ => rfl)
inductive Zbt where
 | b0 (a0 a1 a2 : Int)
noncomputable def Z7R : Zbt -> Tr U (Int ⊕ Zbt)
 | .b0 a0 a1 a2 => .bind 23 (Z0t a0 (Int.tmod (w64 ((11 : Int) * (Int.tmod a1 (64 : Int)))) (64 : Int))) (fun (x1 : Int) => .bind 23 (Z2X x1 (32 : Int)) (fun (x2 : Int) => .bind 33 (Z02 (IntKind.wrap .u32 (a2 + (IntKind.wrap .u32 (x2)))) (7 : Int)) (fun (x3 : Int) => .bind 33 (Z02 (IntKind.wrap .u32 (x2)) (16 : Int)) (fun (x4 : Int) => .leaf (.inl (bits .xor .u32 (IntKind.wrap .u32 (x3 * (2654435761 : Int))) x4))))))
noncomputable def Z5E (a0 a1 a2 : Int) : Option Int := ZT Z7R (.b0 a0 a1 a2)
noncomputable def ZoV : Mod U := ⟨[24, 3, 33], 33, fun x => Z5E x.1 x.2.1 x.2.2.1, by decide⟩
noncomputable def Zmk : Zbt -> Z14 U
 | .b0 a0 a1 a2 => Z26 Tryz.f276 [24, 3, 33] (a0, a1, a2, ())
theorem ZkY : Z28 276 Tryz.f276 (mc Zhb (mc Z9L (mc Z9W msN))) hsN AN 33 Z7R Zmk
 | .b0 _ _ _ => by kernel_rfl
theorem ZmB : Z1p Tryz.prog B0 276 ZoV := okP ZkY (fun x => .b0 x.1 x.2.1 x.2.2.1) (by kernel_rfl) Tryz.func276 (by kernel_rfl) (by kernel_rfl) (fun _ => rfl) (fun _ => rfl)
inductive Z4R where
 | b0 (a0 : Z0m)
noncomputable def Z1W : Z4R -> Tr U (Int ⊕ Z4R)
 | .b0 a0 => .leaf (.inl (bits .or .u64 (IntKind.wrap .u64 ((IntKind.wrap .u64 (a0.x0)) * 2 ^ (32 : Nat))) (IntKind.wrap .u64 (a0.x1))))
noncomputable def Z20 (a0 : Z0m) : Option Int := ZT Z1W (.b0 a0)
noncomputable def ZeX : Mod U := ⟨[325], 23, fun x => Z20 x.1, by decide⟩
noncomputable def ZdW : Z4R -> Z14 U
 | .b0 a0 => Z26 Tryz.f277 [325] (a0, ())
theorem Zdl : Z28 277 Tryz.f277 msN hsN AN 23 Z1W ZdW
 | .b0 _ => by kernel_rfl
theorem Ze5 : Z1p Tryz.prog B0 277 ZeX := okP Zdl (fun x => .b0 x.1) (by kernel_rfl) Tryz.func277 (by kernel_rfl) (by kernel_rfl) (fun _ => rfl) (fun _ => rfl)
inductive ZeW where
 | b0 (a0 a1 : Int)
 | b1 (a0 a1 : Int) (a2 : Z0m)
noncomputable def Z0i : ZeW -> Tr U (Int ⊕ ZeW)
 | .b0 a0 a1 => .bind 325 (Z7W a1) (fun (x1 : Z0m) => .leaf (.inr (.b1 a0 (0 : Int) x1)))
 | .b1 a0 a1 a2 => .br (decide (a1 < (8 : Int))) ( .bind 33 (Z5E a0 a1 a2.x1) (fun (x1 : Int) => .leaf (.inr (.b1 a0 (w64 (a1 + (1 : Int))) (⟨a2.x1, (bits .xor .u32 a2.x0 x1)⟩ : Z0m))))) ( .bind 23 (Z20 a2) (fun (x2 : Int) => .leaf (.inl x2)))
noncomputable def Z1m (a0 a1 : Int) : Option Int := ZT Z0i (.b0 a0 a1)
noncomputable def Zfn : Mod U := ⟨[24, 23], 23, fun x => Z1m x.1 x.2.1, by decide⟩
def ZgM : Lay := ⟨[0, 5, 9], [[.keep], [.keep], [.keep]], [.var [.keep, .keep]], ⟨[.one (.v 24 1 false), .one (.ptr 0), .one (.v 3 1 false)], [.var 325 2 (.agg [.v 325 2 true])]⟩⟩
def Zs6 : Nat -> Option Lay
 | 3 => some ZgM
 | _ => none
noncomputable def Zq7 : ZeW -> Z14 U
 | .b0 a0 a1 => Z26 Tryz.f221 [24, 23] (a0, a1, ())
 | .b1 a0 a1 a2 => spL Tryz.f221 [1, 1, 0, 1, 0, 0, 0] ZgM (((a0, ()), ((), ((a1, ()), ()))), ((a2, ()), ()))
theorem Zpt : Z28 221 Tryz.f221 (mc ZmJ (mc ZmB (mc Ze5 msN))) hsN Zs6 23 Z0i Zq7
 | .b0 _ _ => by kernel_rfl
 | .b1 _ _ _ => by kernel_rfl
theorem ZiS : Z1p Tryz.prog B0 221 Zfn := okP Zpt (fun x => .b0 x.1 x.2.1) (by kernel_rfl) Tryz.func221 (by kernel_rfl) (by kernel_rfl) (fun _ => rfl) (fun _ => rfl)
end Go.Proofs.YtefmbgacbhifdaaGreat
namespace Go.Proofs.YtefmbgacbhifdaaGreat
set_option maxRecDepth 100000
attribute [local go_sem] Go.Oper.semAt_some
open Go Go.RowKit Go.Shelf
def Zsh (ys : List Int) : Nat -> Int
 | 0 => 0
 | m + 1 => bits .or .u64 (Zsh ys m) (IntKind.wrap .u64 (ys[m]?.getD 0 * 2 ^ (8 * m)))
def Ze8 (xs : List Int) (k : Nat) : Int := Zsh ((xs.drop (8 * k)).take 8) ((xs.drop (8 * k)).take 8).length
def gN (xs : List Int) : Nat := (xs.length + 7) / 8
theorem Zql {a b : Nat} (h : a <= b) : List.range a <+: List.range b := by
 obtain ⟨d, rfl⟩ : ∃ d, b = a + d := ⟨b - a, by omega⟩
 rw [List.range_add]
 exact List.prefix_append _ _
theorem meas {L k : Nat} {a b : Int} (h : 8 * k < L) (ha : a = 8 * (k : Int)) (hb : b = 8 * (k : Int) + 8) : L + 8 - (intOf (.int .i64 b)).toNat < L + 8 - (intOf (.int .i64 a)).toNat := by
 subst ha hb
 simp only [intOf]
 omega
structure BytesAt (W : World) (Bm b o cap : Nat) (a : Option Addr) (xs : List Int) : Prop where
 box : W.cell? ⟨Bm, 0, none⟩ = some (.slice a xs.length cap)
 adr : xs ≠ [] -> a = some ⟨b, o, none⟩
 cells : ∀ j (h : j < xs.length), W.cell? ⟨b, o + j, none⟩ = some (.int .u8 xs[j])
 len : xs.length <= cap
 max : cap <= maxLen
 bd : ∀ x ∈ xs, 0 <= x /\ x < 256
set_option maxHeartbeats 1000000 in
theorem g1_in (F : Fence) (n : Nat) (hG1 : F.fn 278) (hro : F.round = none) (hn : 1 <= n) (xs : List Int) (hlen : xs.length <= 4611686018427387904) (b o cap : Nat) (a : Option Addr) (l Bm : Nat) (J Jx : List Nat -> World -> Prop)
  (hY : ∀ pre x W, J pre W -> pre.length < gN xs -> YieldAt F (n - 1) Tryz.prog l #[.int .u64 (Ze8 xs x)] W fun e W' =>
   (e = .returned (.bool true) /\ J (pre ++ [x]) W' /\ (BytesAt W Bm b o cap a xs -> BytesAt W' Bm b o cap a xs)) \/ (e = .returned (.bool false) /\ Jx (pre ++ [x]) W'))
  (W : World) (hB : BytesAt W Bm b o cap a xs) (h0 : J [] W) :
  CallsIn F n Tryz.prog 278 #[.func (.yield l) #[] #[], .pointer (some ⟨Bm, 0, none⟩)] W fun e W' => (∃ v, e = .returned v) /\
   ((∃ ys, ys = List.range (gN xs) /\ J ys W') \/ (∃ pre, pre <+: List.range (gN xs) /\ Jx pre W')) := by
 refine callsIn_of_wp Tryz.func278 rfl hG1 ?_ hro
 simp only [Tryz.ntmps278, List.size_toArray, List.length_cons, List.length_nil, Nat.reduceAdd, Nat.reduceSub, Array.replicate_succ, Array.replicate_zero, List.push_toArray, List.append_toArray, List.nil_append, List.cons_append]
 gi_wp2
 gi_loopw [3] (fun i wr => ∃ k : Nat, k <= gN xs /\ i = .int .i64 ((8 * k : Nat) : Int) /\ J (List.range k) wr /\ BytesAt wr Bm b o cap a xs)
  (fun i _ => xs.length + 8 - (intOf i).toNat)
 case atStart => exact ⟨0, by omega, rfl, by simpa using h0, hB⟩
 case round =>
  obtain ⟨k, hk, rfl, hJ, hb⟩ := hrel
  have hbox := hb.box
  by_cases hlt : 8 * k < xs.length
  ·have hl := hb.len
   have hne : xs ≠ [] := by rintro rfl; simp at hlt
   obtain rfl := hb.adr hne
   have hw : wrap64 (8 * (k : Int) + 8) = 8 * (k : Int) + 8 := by unfold wrap64; omega
   have c1 : (8 * (k : Int) < xs.length) := by omega
   have c2 : (0 <= 8 * (k : Int) + 8) := by omega
   have c3 : (0 <= 8 * (k : Int)) := by omega
   have c4 : (8 * (k : Int) <= 8 * (k : Int) + 8) := by omega
   have c5 : ((xs.length : Int) <= cap) := by omega
   by_cases h8 : 8 * k + 8 <= xs.length
   ·have d1 : ¬ ((xs.length : Int) < 8 * (k : Int) + 8) := by omega
    have d2 : (8 * (k : Int) + 8 <= cap) := by omega
    have d3 : (8 * (k : Int) + 8).toNat = 8 * k + 8 := by omega
    have HL := Lib.hid hl; have HE := Lib.hid hlen; have HT := Lib.hid hlt; have HK := Lib.hid hk; have H8 := Lib.hid h8
    clear hl hne hlt hk h8 hlen
    gi_wp2
    gi_loopw [4, 22] (fun acc j wi => ∃ m : Nat, m <= 8 /\ j = .int .i64 (m : Int) /\ acc = .int .u64 (Zsh ((xs.drop (8 * k)).take 8) m) /\ J (List.range k) wi /\ BytesAt wi Bm b o cap (some ⟨b, o, none⟩) xs)
     (fun _ j _ => 8 - (intOf j).toNat)
    case atStart => exact ⟨0, by omega, rfl, rfl, hJ, hb⟩
    case round =>
     obtain ⟨m, hm, rfl, rfl, hJ2, hb2⟩ := hrel
     have hb2b := hb2.box
     by_cases hm8 : m < 8
     ·have e1 : ((m : Int) < 8) := by omega
      have e2 : (0 <= (m : Int)) := by omega
      have e3 : m < 8 := hm8
      have hj : 8 * k + m < xs.length := by have := H8.out; omega
      have hcell : wr.cell? ⟨b, o + 8 * k + m, none⟩ = some (.int .u8 xs[8 * k + m]) := by rw [Nat.add_assoc]; exact hb2.cells _ hj
      obtain ⟨bd1, bd2⟩ := hb2.bd _ (List.getElem_mem hj)
      have e4 : IntKind.wrap .u64 xs[8 * k + m] = xs[8 * k + m] := by simp only [IntKind.wrap, IntKind.signed, IntKind.bits, Bool.false_and, Bool.false_eq_true, if_false]; omega
      have e5 : wrap64 (8 * (m : Int)) = 8 * (m : Int) := by unfold wrap64; omega
      clear hm
      have hgn : Zsh ((xs.drop (8 * k)).take 8) (m + 1) = bits .or .u64 (Zsh ((xs.drop (8 * k)).take 8) m) (IntKind.wrap .u64 (xs[8 * k + m] * 2 ^ (8 * m))) := by
       simp only [Zsh]
       rw [List.getElem?_take, if_pos hm8, List.getElem?_drop, List.getElem?_eq_getElem hj]
       rfl
      have HG := Lib.hid hgn
      clear hgn
      gi_wp2
      go_roundw
      case rel => exact ⟨m + 1, by omega, by go_num, by rw [HG.out], hJ2, hb2⟩
      case measure => simp [intOf]; omega
     ·obtain rfl : m = 8 := by omega
      have hb3 := hb2
      obtain ⟨fn, tmps, assign, body, hy, hR⟩ := hY (List.range k) k wr hJ2 (by have := H8.out; simp [gN]; omega)
      have hg : Zsh ((xs.drop (8 * k)).take 8) 8 = Ze8 xs k := by
       have := H8.out
       unfold Ze8
       rw [show ((xs.drop (8 * k)).take 8).length = 8 by simp; omega]
      have hstep : List.range k ++ [k] = List.range (k + 1) := List.range_succ.symm
      have hpre : List.range (k + 1) <+: List.range (gN xs) := Zql (by have := HT.out; unfold gN; omega)
      rw [hstep] at hR
      have HS := Lib.hid hstep; have HP := Lib.hid hpre; clear hstep hpre
      gi_wp2
      refine hR.mono ?_
      rintro e W3 (⟨rfl, hJ3, hk3⟩ | ⟨rfl, hJx3⟩)
      ·have hb4 := hk3 hb3
       clear hk3
       gi_wp2
       go_roundw
       case rel => exact ⟨k + 1, by have := HT.out; unfold gN; omega, by simp only [Value.int.injEq, true_and]; omega, hJ3, hb4⟩
       case measure => exact meas (by have := HT.out; omega) (by omega) (by omega)
      ·gi_wp2
       refine bodyPost_ret (results_none rfl _ _ _) rfl ?_
       exact ⟨⟨_, rfl⟩, .inr ⟨_, HP.out, hJx3⟩⟩
   ·have d1 : ((xs.length : Int) < 8 * (k : Int) + 8) := by omega
    have d2 : (8 * (k : Int) <= xs.length) := by omega
    obtain ⟨q, hq⟩ : ∃ q, xs.length - 8 * k = q := ⟨_, rfl⟩
    have d3 : (0 <= (xs.length : Int)) := by omega
    have HQ := Lib.hid hq
    have HL := Lib.hid hl; have HE := Lib.hid hlen; have HT := Lib.hid hlt; have HK := Lib.hid hk; have H8 := Lib.hid h8
    clear hl hne hlt hk h8 hlen
    gi_wp2
    gi_loopw [4, 22] (fun acc j wi => ∃ m : Nat, m <= q /\ j = .int .i64 (m : Int) /\ acc = .int .u64 (Zsh ((xs.drop (8 * k)).take 8) m) /\ J (List.range k) wi /\ BytesAt wi Bm b o cap (some ⟨b, o, none⟩) xs)
     (fun _ j _ => q - (intOf j).toNat)
    case atStart => exact ⟨0, by omega, rfl, rfl, hJ, hb⟩
    case round =>
     obtain ⟨m, hm, rfl, rfl, hJ2, hb2⟩ := hrel
     have hb2b := hb2.box
     by_cases hm8 : m < q
     ·have e1 : ((m : Int) < q) := by omega
      have e2 : (0 <= (m : Int)) := by omega
      have e3 : m < xs.length - 8 * k := by have := HQ.out; omega
      have hj : 8 * k + m < xs.length := by have := HQ.out; omega
      have hcell : wr.cell? ⟨b, o + 8 * k + m, none⟩ = some (.int .u8 xs[8 * k + m]) := by rw [Nat.add_assoc]; exact hb2.cells _ hj
      obtain ⟨bd1, bd2⟩ := hb2.bd _ (List.getElem_mem hj)
      have e4 : IntKind.wrap .u64 xs[8 * k + m] = xs[8 * k + m] := by simp only [IntKind.wrap, IntKind.signed, IntKind.bits, Bool.false_and, Bool.false_eq_true, if_false]; omega
      have e5 : wrap64 (8 * (m : Int)) = 8 * (m : Int) := by have := HQ.out; have := H8.out; unfold wrap64; omega
      clear hm
      have hgn : Zsh ((xs.drop (8 * k)).take 8) (m + 1) = bits .or .u64 (Zsh ((xs.drop (8 * k)).take 8) m) (IntKind.wrap .u64 (xs[8 * k + m] * 2 ^ (8 * m))) := by
       simp only [Zsh]
       rw [List.getElem?_take, if_pos (by have := HQ.out; have := H8.out; omega), List.getElem?_drop, List.getElem?_eq_getElem hj]
       rfl
      have HG := Lib.hid hgn
      clear hgn
      gi_wp2
      go_roundw
      case rel => exact ⟨m + 1, by omega, by go_num, by rw [HG.out], hJ2, hb2⟩
      case measure => simp [intOf]; omega
     ·obtain rfl : m = q := by omega
      have hb3 := hb2
      obtain ⟨fn, tmps, assign, body, hy, hR⟩ := hY (List.range k) k wr hJ2 (by have := HT.out; simp [gN]; omega)
      have hg : Zsh ((xs.drop (8 * k)).take 8) m = Ze8 xs k := by
       have := H8.out
       unfold Ze8
       rw [show ((xs.drop (8 * k)).take 8).length = m by have := HQ.out; simp only [List.length_take, List.length_drop]; omega]
      have hstep : List.range k ++ [k] = List.range (k + 1) := List.range_succ.symm
      have hpre : List.range (k + 1) <+: List.range (gN xs) := Zql (by have := HT.out; unfold gN; omega)
      rw [hstep] at hR
      have HS := Lib.hid hstep; have HP := Lib.hid hpre; clear hstep hpre
      gi_wp2
      refine hR.mono ?_
      rintro e W3 (⟨rfl, hJ3, hk3⟩ | ⟨rfl, hJx3⟩)
      ·have hb4 := hk3 hb3
       clear hk3
       gi_wp2
       go_roundw
       case rel => exact ⟨k + 1, by have := HT.out; unfold gN; omega, by simp only [Value.int.injEq, true_and]; omega, hJ3, hb4⟩
       case measure => exact meas (by have := HT.out; omega) (by omega) (by omega)
      ·gi_wp2
       refine bodyPost_ret (results_none rfl _ _ _) rfl ?_
       exact ⟨⟨_, rfl⟩, .inr ⟨_, HP.out, hJx3⟩⟩
  ·have hkk : k <= (xs.length + 7) / 8 := hk
   have hdone : k = gN xs := by unfold gN; omega
   rw [hdone] at hJ
   have c1 : ¬ (8 * (k : Int) < xs.length) := by omega
   gi_wp2
   go_end0
   exact ⟨⟨_, rfl⟩, .inl hJ⟩
def ZBv (mx : Int -> Int -> Option Int) (k : Int) (xs : List Int) : Option Int :=
 if xs.length <= 4611686018427387904 then (mx k xs.length).bind fun s => (List.range (gN xs)).foldlM (fun s g => mx k (bits .xor .u64 s (Ze8 xs g))) s else none
def Zz2 (F : Fence) (mx : Int -> Int -> Option Int) : Prop := ∀ k s r, (Lit.int .u64 k).wf = true -> (Lit.int .u64 s).wf = true -> mx k s = some r -> (Lit.int .u64 r).wf = true /\
 ∀ n w, CallsIn F n Tryz.prog 221 #[.int .u64 k, .int .u64 s] w fun e w' => e = .returned (.int .u64 r) /\ Below w.heap.size w w'
structure Zjf (W : World) (b o cap : Nat) (a : Option Addr) (xs : List Int) : Prop where
 adr : xs ≠ [] -> a = some ⟨b, o, none⟩
 cells : ∀ j (h : j < xs.length), W.cell? ⟨b, o + j, none⟩ = some (.int .u8 xs[j])
 len : xs.length <= cap
 max : cap <= maxLen
 bd : ∀ x ∈ xs, 0 <= x /\ x < 256
theorem Zjf.below {W W' : World} {n b o cap : Nat} {a : Option Addr} {xs : List Int} (h : Zjf W b o cap a xs) (hb : Below n W W') (hn : W.heap.size <= n \/ b < n) : Zjf W' b o cap a xs :=
 ⟨h.adr, fun j hj => (hb.cell (p := ⟨b, o + j, none⟩) (by
  rcases hn with hn | hn
  ·exact Nat.lt_of_lt_of_le (by have := h.cells j hj; unfold World.cell? at this; split at this <;> first | exact (Array.getElem?_eq_some_iff.1 ‹_›).1 | cases this) hn
  ·exact hn)).trans (h.cells j hj), h.len, h.max, h.bd⟩
theorem BytesAt.of {W : World} {Bm b o cap : Nat} {a : Option Addr} {xs : List Int} (h : Zjf W b o cap a xs) (hb : W.cell? ⟨Bm, 0, none⟩ = some (.slice a xs.length cap)) : BytesAt W Bm b o cap a xs := ⟨hb, h.adr, h.cells, h.len, h.max, h.bd⟩
theorem BytesAt.row {W : World} {Bm b o cap : Nat} {a : Option Addr} {xs : List Int} (h : BytesAt W Bm b o cap a xs) : Zjf W b o cap a xs := ⟨h.adr, h.cells, h.len, h.max, h.bd⟩
theorem Zjf.same {W W' : World} {b o cap : Nat} {a : Option Addr} {xs : List Int} (h : Zjf W b o cap a xs) (hb : xs ≠ [] -> W'.heap[b]? = W.heap[b]?) : Zjf W' b o cap a xs :=
 ⟨h.adr, fun j hj => (World.cell?_of_block (hb (by rintro rfl; cases hj))).trans (h.cells j hj), h.len, h.max, h.bd⟩
theorem Zjf.lt {W : World} {b o cap : Nat} {a : Option Addr} {xs : List Int} (h : Zjf W b o cap a xs) (hx : xs ≠ []) : b < W.heap.size := by
 have := h.cells 0 (List.length_pos_iff.2 hx)
 unfold World.cell? at this
 split at this <;> first | exact (Array.getElem?_eq_some_iff.1 ‹_›).1 | cases this
structure ZCJ (k : Int) (w : World) (n5 : Nat) (s : Int) (W : World) : Prop where
 key : Boxed W w.heap.size 24 (.int .u64 k)
 st : Boxed W n5 23 (.int .u64 s)
 below : Below w.heap.size w W
theorem boxed_own {W W' : World} {row : Option Nat} {B B0 : Nat} {t : TypeId} {v : Value} (h : Boxed W B t v) (hg : W.grownBy W' row) (hr : ∀ r, row = some r -> B0 <= r /\ ∃ o : Obj, W.heap[r]? = some o /\ o.isCells = false) : Boxed W' B t v := by
 refine h.kept hg ?_
 intro e
 obtain ⟨_, o, ho, hc⟩ := hr B e.symm
 rw [show W.heap[B]? = _ from h] at ho
 cases ho
 cases hc
theorem ZCJ.own {k : Int} {w : World} {n5 : Nat} {s : Int} {W W' : World} {row : Option Nat} {B0 : Nat} (hB : w.heap.size <= B0) (h : ZCJ k w n5 s W) (hg : W.grownBy W' row) (hr : ∀ r, row = some r -> B0 <= r /\ ∃ o : Obj, W.heap[r]? = some o /\ o.isCells = false) : ZCJ k w n5 s W' :=
 ⟨boxed_own h.key hg hr, boxed_own h.st hg hr, h.below.grown hg h.below.size (fun k e => Nat.le_trans hB (hr k e).1)⟩
theorem wf_x (a b : Int) : (Lit.int .u64 (bits .xor .u64 a b)).wf = true := by
 have := bits_within .xor .u64 a b
 simp only [Lit.wf, Bool.and_eq_true, decide_eq_true_eq]
 exact this
theorem Zwu (F : Fence) (n : Nat) (hG : F.fn 222) (hro : F.round = none) (a : Option Addr) (l c : Nat) (w : World) :
  CallsIn F n Tryz.prog 222 #[.slice a l c] w fun e w' => e = .returned (.func (.func 278) #[] #[.pointer (some ⟨w.heap.size, 0, none⟩)]) /\ w' = w.alloc (.cells #[.slice a l c] 27) := by
 refine callsIn_of_wp Tryz.func222 rfl hG ?_ hro
 simp only [Tryz.ntmps222, List.size_toArray, List.length_cons, List.length_nil, Nat.reduceAdd, Nat.reduceSub, Array.replicate_succ, Array.replicate_zero, List.push_toArray, List.append_toArray, List.nil_append, List.cons_append]
 gi_wp2
 go_ret
 exact ⟨rfl, rfl⟩
set_option maxHeartbeats 2000000 in
theorem ZCP (F : Fence) (hMIX : F.fn 221) (hG : F.fn 222) (hG1 : F.fn 278) (hSELF : F.fn 141) (hro : F.round = none) (mx : Int -> Int -> Option Int) (hM : Zz2 F mx) (hT : ∀ k s, (Lit.int .u64 s).wf = true -> ∃ r, mx k s = some r) (n : Nat) (hn : 3 <= n) (k : Int) (xs : List Int) (r : Int) (hk : (Lit.int .u64 k).wf = true) (hr : ZBv mx k xs = some r) (b o cap : Nat) (a : Option Addr) (w : World) (hB : Zjf w b o cap a xs) :
  CallsIn F n Tryz.prog 141 #[.int .u64 k, .slice a xs.length cap] w fun e W' => e = .returned (.int .u64 r) /\ Below w.heap.size w W' := by
 unfold ZBv at hr
 split at hr
 ·rename_i hlen
  cases h0 : mx k xs.length with
  | none => rw [h0] at hr; cases hr
  | some s0 =>
   rw [h0] at hr
   change (List.range (gN xs)).foldlM (fun s g => mx k (bits .xor .u64 s (Ze8 xs g))) s0 = some r at hr
   have hlw : (Lit.int .u64 (xs.length : Int)).wf = true := by simp [Lit.wf, IntKind.min, IntKind.max, IntKind.signed, IntKind.bits]; omega
   obtain ⟨hs0, hC⟩ := hM k xs.length s0 hk hlw h0
   have h1 : 1 <= n := by omega
   refine callsIn_of_wp_marks Tryz.func141 rfl hSELF ?_ hro
   simp only [Tryz.ntmps141, List.size_toArray, List.length_cons, List.length_nil, Nat.reduceAdd, Nat.reduceSub, Array.replicate_succ, Array.replicate_zero, List.push_toArray, List.append_toArray, List.nil_append, List.cons_append]
   have hcv : IntKind.wrap .u64 (xs.length : Int) = xs.length := by simp only [IntKind.wrap, IntKind.signed, IntKind.bits, Bool.false_and, Bool.false_eq_true, if_false]; omega
   have HR := Lib.hid hr; have HS := Lib.hid hs0; have HL := Lib.hid hlen
   clear hr hs0 hlen
   gi_wp2_with (gi_at_call 221; refine (hC (n - 1) _).mono ?_; rintro e w1 ⟨rfl, hb1⟩)
   gi_wp2_with (gi_at_call 222; refine (Zwu F (n - 1) hG hro _ _ _ _).mono ?_; rintro e w2 ⟨rfl, rfl⟩)
   have hb1' : w.heap.size < w1.heap.size := by have := hb1.size; simp at this; omega
   obtain ⟨W0, hW0⟩ : ∃ W0, (w1.alloc (Obj.cells #[Value.int IntKind.u64 s0] 23)).alloc (Obj.cells #[Value.slice a xs.length cap] 27) = W0 := ⟨_, rfl⟩
   have hk1 : Boxed w1 w.heap.size 24 (.int .u64 k) := (hb1.block _ (by simp)).trans (Boxed.new w 24 _)
   have hI0 : ZCJ k w w1.heap.size s0 W0 := by
    rw [<- hW0]
    refine ⟨(hk1.alloc _).alloc _, (Boxed.new w1 23 (.int .u64 s0)).alloc _, ?_⟩
    exact (((((Below.refl _ w).alloc (Nat.le_refl _) _).trans (hb1.mono (by simp))).alloc (Nat.le_of_lt hb1') _).alloc (by simp; omega) _)
   have hbyt : BytesAt W0 (w1.heap.size + 1) b o cap a xs := by
    refine BytesAt.of (hB.below hI0.below (.inl (Nat.le_refl _))) ?_
    rw [<- hW0]
    simp
   have hs0' : W0.heap.size = w1.heap.size + 2 := by rw [<- hW0]; simp
   rw [hW0]
   have HB := Lib.hid hbyt
   clear hW0 hk1
   refine wpIn_rangeFunc_ownG hro h1 (gf := 278) (lb := #[.pointer (some ⟨w1.heap.size + 1, 0, none⟩)]) rfl hG1 (enters_of Tryz.func278 (by kernel_rfl) rfl) (α := Nat) (encs := fun x => #[Value.int .u64 (Ze8 xs x)])
    (Kp := fun A B => BytesAt A (w1.heap.size + 1) b o cap a xs -> BytesAt B (w1.heap.size + 1) b o cap a xs) (S := fun ys => ys = List.range (gN xs)) (Sp := fun pre => pre <+: List.range (gN xs)) (N := gN xs) (w0 := W0)
    (fun l J Jx W hW _ _ hY hJ => g1_in F (n - 1) hG1 hro (by omega) xs HL.out b o cap a l (w1.heap.size + 1) J Jx (fun pre x W1 h1 h2 => hY pre x W1 h1 h2)
     W (BytesAt.of (hbyt.row.below hW (.inl (Nat.le_refl _))) ((hW.cell (p := ⟨w1.heap.size + 1, 0, none⟩) (by simp; omega)).trans hbyt.box)) hJ)
    (fun h k => fun x => k (h x))
    (fun W l o o' hl ho hc _ hby => BytesAt.of (hby.row.same fun hx => World.putObj_heap_other (by have := hbyt.row.lt hx; omega)) ((World.cell?_of_block (World.putObj_heap_other (by simp only; omega))).trans hby.box))
    (Below.refl _ _) (fun _ => rfl)
    (fun pre W => ∃ s, pre.foldlM (fun s g => mx k (bits .xor .u64 s (Ze8 xs g))) s0 = some s /\ (Lit.int .u64 s).wf = true /\ ZCJ k w w1.heap.size s W)
    (fun _ _ _ => False)
    (fun p A B row hs hg hr => by obtain ⟨s, q1, q2, q3⟩ := hs; exact ⟨s, q1, q2, q3.own (by omega) hg hr⟩)
    (fun c p A B row hs hg hr => hs)
    ⟨s0, rfl, HS.out, hI0⟩
    (fun x => { tmps := #[.int .u64 k, .slice a xs.length cap, .pointer (some ⟨w.heap.size, 0, none⟩), undef, .int .u64 0, .pointer (some ⟨w1.heap.size, 0, none⟩), .int .u64 (Ze8 xs x), .int .u64 k, .slice a xs.length cap, .int .i64 xs.length, .int .u64 xs.length, .int .u64 s0, .slice a xs.length cap, .func (.func 278) #[] #[.pointer (some ⟨w1.heap.size + 1, 0, none⟩)], .int .u64 (Ze8 xs x), undef, undef, undef, undef, undef, undef], defers := [] }) ?assign ?body ?done ?stop
   case assign =>
    intro l x W K hK
    gi_wp2
    exact hK
   case body =>
    rintro l pre x W ⟨s, q1, q2, hI⟩ hlen
    obtain ⟨r', hr'⟩ := hT k (bits .xor .u64 s (Ze8 xs x)) (wf_x _ _)
    obtain ⟨hw', hC'⟩ := hM k _ r' hk (wf_x _ _) hr'
    have hc0 := hI.key.cell
    have hc1 := hI.st.cell
    have hf1 := hI.st.frozen
    have hMIXl : (F.inRound l).fn 221 := hMIX
    have h3 : 1 <= n - 1 - 1 := by omega
    gi_wp2_with (gi_at_call 221; refine (CallsIn.inRound l (hC' (n - 1 - 1 - 1) _)).mono ?_; rintro e W2 ⟨rfl, hb2⟩; have hst2 : Boxed W2 w1.heap.size 23 (.int .u64 s) := (hb2.block _ hI.st.lt).trans hI.st; have hky2 : Boxed W2 w.heap.size 24 (.int .u64 k) := (hb2.block _ hI.key.lt).trans hI.key; have hc2 := hst2.cell; have hf2 := hst2.frozen; clear hc0 hc1 hf1)
    refine ⟨KeepsFrom.trans ⟨hb2.size, fun j o _ hj _ => (hb2.block _ (Array.getElem?_eq_some_iff.1 hj).1).trans hj⟩ (KeepsFrom.of_grownBy (grownBy_setCell' W2 _ _) (fun j e => by cases e; omega)), fun hby => ?_, r', ?_, hw', ?_⟩
    ·refine BytesAt.of ((hby.row.below hb2 (.inl (Nat.le_refl _))).same fun hx => Below.heap_setCell _ _ _ _ (by have := hB.lt hx; simp only; omega)) ?_
     have hbm : w1.heap.size + 1 < W.heap.size := by
      have := hby.box
      unfold World.cell? at this
      split at this <;> first | exact (Array.getElem?_eq_some_iff.1 ‹_›).1 | cases this
     exact (World.cell?_of_block (Below.heap_setCell _ _ _ _ (by simp only; omega))).trans ((hb2.cell (p := ⟨w1.heap.size + 1, 0, none⟩) hbm).trans hby.box)
    ·simp only [List.foldlM_append, q1, List.foldlM_cons, List.foldlM_nil, Option.bind_eq_bind, Option.bind_some, hr', Option.pure_def]
    ·exact ⟨(Below.heap_setCell _ _ _ _ (by simp only; omega)).trans hky2, hst2.set _, (hI.below.trans (hb2.mono hI.below.size)).setCell (p := ⟨w1.heap.size, 0, none⟩) (Nat.le_of_lt hb1') _⟩
   case done =>
    rintro D ys W hD rfl ⟨s, q1, q2, hI⟩ hK
    have hsr : s = r := Option.some.inj (q1.symm.trans HR.out)
    subst hsr
    have hc1 := hI.st.cell
    have hf1 := hI.st.frozen
    gi_wp2
    refine ⟨by simp, .inl ⟨_, _, rfl, run_takeDeferred hK, ?_⟩⟩
    refine ⟨.int .u64 s, ?_, ?_, ?_⟩
    ·simp [results, Tryz.f141, go_sem]
    ·rfl
    ·exact hI.below.trans (belowK_b (w := w) (Nat.le_refl _) _ D _ _ (by omega) hK rfl rfl)
   case stop =>
    rintro D c pre W hD hp hf hK
    exact hf.elim
 ·cases hr
open Go.Proofs.YtefmbgacbhifdaaGreat.Le
theorem Zug {σ : Sg} {w : World} : ∀ {xs : List Int} {us : List Value}, Zv σ w (xs.map fun x => V.lit (.int .u8 x)) us -> us = xs.map (fun x => Value.int .u8 x) /\ ∀ x ∈ xs, 0 <= x /\ x < 256 := by
 intro xs
 induction xs with
 | nil => intro us h; cases h.Z0w; exact ⟨rfl, by simp⟩
 | cons x xs ih =>
  intro us h
  obtain ⟨v, vs, rfl, h1, h2⟩ := h.ZL
  obtain ⟨i1, i2⟩ := ih h2
  cases h1 with
  | lit hl _ =>
   refine ⟨by rw [i1]; rfl, fun y hy => ?_⟩
   rcases List.mem_cons.1 hy with rfl | hy
   ·simp [leaf, Lit.wf, IntKind.min, IntKind.max, IntKind.signed, IntKind.bits] at hl
    omega
   ·exact i2 y hy
theorem row_of {σ : Sg} {w : World} {xs : List Int} {v : Value} (h : Zv σ w [.sl false 1 (xs.map fun x => V.lit (.int .u8 x))] [v]) : ∃ a b o cap, v = .slice a xs.length cap /\ Zjf w b o cap a xs := by
 generalize hes : (xs.map fun x => V.lit (.int .u8 x)) = es at h
 cases h with
 | Z4u _ =>
  have : xs = [] := by simpa using hes
  subst this
  exact ⟨none, 0, 0, 0, rfl, ⟨fun h => absurd rfl h, fun j hj => (by cases hj), Nat.le_refl _, Nat.zero_le _, by simp⟩⟩
 | Z62 a _ =>
  have : xs = [] := by simpa using hes
  subst this
  exact ⟨_, 0, 0, _, rfl, ⟨fun h => absurd rfl h, fun j hj => (by cases hj), Nat.zero_le _, by first | exact Nat.zero_le _ | assumption, by simp⟩⟩
 | sl b o c e h0 h1 h2 h3 h4 h5 h6 _ =>
  subst hes
  obtain ⟨rfl, hbd⟩ := Zug h0
  refine ⟨_, b, o, c, by rw [List.length_map], ⟨fun _ => rfl, fun j hj => ?_, by simpa using h4, h5, hbd⟩⟩
  refine (h6 j (.int .u8 xs[j]) ?_).2
  have : ∀ l : List Int, flat (l.map fun x => Value.int .u8 x) = l.map fun x => Value.int .u8 x := by
   intro l
   induction l with
   | nil => rfl
   | cons y l ih => rw [List.map_cons, Z2T, ih]; rfl
  rw [this, List.getElem?_map, List.getElem?_eq_getElem hj]
  rfl
theorem ZzU (n : Int) : 0 <= IntKind.wrap .u64 n := by simp only [IntKind.wrap, IntKind.signed, IntKind.bits, Bool.false_and, Bool.false_eq_true, if_false]; omega
theorem Zwq (a b : Int) : 0 <= bits .and .u64 a b := (bits_within .and .u64 a b).1
theorem ZB4 (a b : Int) : ∃ r, Z0t a b = some r := ⟨_, (Zc _ _).trans (by simp only [Z2L, Tr.den, Zu, ZzU, Zwq, decide_true, cond_true]; rfl)⟩
theorem Zvs (a b : Int) : ∃ r, Z02 a b = some r := ⟨_, (Zc _ _).trans (by simp only [Z2S, Tr.den, Zu, ZzU, Zwq, decide_true, cond_true]; rfl)⟩
theorem ZwB (a : Int) : ∃ r, Z2X a 32 = some r := ⟨_, (Zc _ _).trans (by simp [Z9a, Tr.den, Zu]; rfl)⟩
theorem ZAw (a : Int) : ∃ r, Z7W a = some r := by
 obtain ⟨x, hx⟩ := ZwB a
 exact ⟨_, (Zc _ _).trans (by simp only [Z84, Tr.den, Zu, hx, Option.bind_some]; rfl)⟩
theorem Zzy (a : Z0m) : ∃ r, Z20 a = some r := ⟨_, (Zc _ _).trans (by simp only [Z1W, Tr.den, Zu]; rfl)⟩
theorem ZAI (a b c : Int) : ∃ r, Z5E a b c = some r := by
 obtain ⟨x1, h1⟩ := ZB4 a (Int.tmod (w64 ((11 : Int) * (Int.tmod b (64 : Int)))) (64 : Int))
 obtain ⟨x2, h2⟩ := ZwB x1
 obtain ⟨x3, h3⟩ := Zvs (IntKind.wrap .u32 (c + (IntKind.wrap .u32 (x2)))) 7
 obtain ⟨x4, h4⟩ := Zvs (IntKind.wrap .u32 (x2)) 16
 exact ⟨_, (Zc _ _).trans (by simp only [Z7R, Tr.den, Zu, h1, h2, h3, h4, Option.bind_some]; rfl)⟩
theorem ZC7 (k : Int) : ∀ (n : Nat) (i : Int) (h : Z0m), 0 <= i -> 8 - i <= n -> ∃ r, ZT Z0i (.b1 k i h) = some r := by
 intro n
 induction n with
 | zero =>
  intro i h h0 h8
  obtain ⟨r, hr⟩ := Zzy h
  have : decide (i < (8 : Int)) = false := by simp; omega
  exact ⟨r, (Zc _ _).trans (by simp only [Z0i, Tr.den, Zu, this, cond_false, hr, Option.bind_some])⟩
 | succ n ih =>
  intro i h h0 h8
  by_cases hi : i < 8
  ·obtain ⟨x, hx⟩ := ZAI k i h.x1
   have hw : w64 (i + 1) = i + 1 := by simp [w64, IntKind.wrap, IntKind.signed, IntKind.bits]; split <;> omega
   obtain ⟨r, hr⟩ := ih (i + 1) ⟨h.x1, bits .xor .u32 h.x0 x⟩ (by omega) (by omega)
   have : decide (i < (8 : Int)) = true := by simp [hi]
   exact ⟨r, (Zc _ _).trans (by simp only [Z0i, Tr.den, Zu, this, cond_true, hx, Option.bind_some, hw, hr])⟩
  ·obtain ⟨r, hr⟩ := Zzy h
   have : decide (i < (8 : Int)) = false := by simp; omega
   exact ⟨r, (Zc _ _).trans (by simp only [Z0i, Tr.den, Zu, this, cond_false, hr, Option.bind_some])⟩
theorem ZCc (k s : Int) : ∃ r, Z1m k s = some r := by
 obtain ⟨x, hx⟩ := ZAw s
 obtain ⟨r, hr⟩ := ZC7 k 8 0 x (by omega) (by omega)
 exact ⟨r, (Zc _ _).trans (by simp only [Z0i, Tr.den, Zu, hx, Option.bind_some, hr])⟩
theorem Zvr (ok : Z1p Tryz.prog B0 221 Zfn) : Zz2 Fence.wide Z1m := by
 intro k s r hk hs hr
 have key : ∀ w, Calls Tryz.prog 221 #[.int .u64 k, .int .u64 s] w fun e w' => (e = .returned (.int .u64 r) /\ Below w.heap.size w w') /\ (Lit.int .u64 r).wf = true := fun w => by
  have := ok.pure (k, s, ()) r hr (fun _ _ => False) w [.int .u64 k, .int .u64 s] (fun _ _ h => h.elim) (fun g r h => by cases h) (.lit hk (.lit hs .nil))
  refine this.mono ?_
  rintro e w' ⟨u, fz', rfl, hb, _, _, _, h1, _⟩
  cases h1 with
  | lit hl _ => exact ⟨⟨rfl, hb⟩, hl⟩
 refine ⟨?_, fun n w => callsIn_wide.2 ((key w).mono fun e w' h => h.1)⟩
 obtain ⟨e, w', fr, h, _⟩ := key { heap := #[], os := default, tape := default, output := default, drawn := default } []
 exact h.2
theorem fold_wf {F : Fence} {mx : Int -> Int -> Option Int} (hM : Zz2 F mx) {k : Int} (hk : (Lit.int .u64 k).wf = true) {xs : List Int} : ∀ (l : List Nat) (s r : Int), (Lit.int .u64 s).wf = true -> l.foldlM (fun s g => mx k (bits .xor .u64 s (Ze8 xs g))) s = some r -> (Lit.int .u64 r).wf = true := by
 intro l
 induction l with
 | nil => intro s r hs h; cases h; exact hs
 | cons g l ih =>
  intro s r hs h
  rw [List.foldlM_cons] at h
  obtain ⟨s', h1, h2⟩ := Option.bind_eq_some_iff.1 h
  exact ih s' r (hM k _ s' hk (Go.Proofs.YtefmbgacbhifdaaGreat.wf_x _ _) h1).1 h2
theorem ZCm {F : Fence} {mx : Int -> Int -> Option Int} (hM : Zz2 F mx) {k : Int} (hk : (Lit.int .u64 k).wf = true) {xs : List Int} {r : Int} (h : ZBv mx k xs = some r) : (Lit.int .u64 r).wf = true := by
 unfold ZBv at h
 split at h
 ·rename_i hlen
  obtain ⟨s', h1, h2⟩ := Option.bind_eq_some_iff.1 h
  refine fold_wf hM hk _ s' r (hM k _ s' hk ?_ h1).1 h2
  simp [Lit.wf, IntKind.min, IntKind.max, IntKind.signed, IntKind.bits]
  omega
 ·cases h
noncomputable def ZcY (k : Int) (xs : List Int) : Option Int := ZBv Z1m k xs
noncomputable def ZqS : Mod U := ⟨[24, 27], 23, fun x => ZcY x.1 x.2.1, by decide⟩
theorem Zsj (ok : Z1p Tryz.prog B0 221 Zfn) (hT : ∀ k s, (Lit.int .u64 s).wf = true -> ∃ r, Z1m k s = some r) : Z1p Tryz.prog B0 141 ZqS := by
 refine ⟨⟨Tryz.f141, Tryz.func141, by kernel_rfl, by kernel_rfl⟩, ?_⟩
 rintro ⟨k, xs, _⟩ r ha fz w vs hcells hg hr
 obtain ⟨v0, vs, rfl, h1, hr⟩ := hr.ZL
 obtain ⟨v1, vs, rfl, h2, hr⟩ := hr.ZL
 cases hr.Z0w
 obtain ⟨a, b, o, cap, rfl, hrow⟩ := row_of (xs := xs) h2
 cases h1 with
 | lit hl _ =>
  have hw : (Lit.int .u64 r).wf = true := ZCm (Zvr ok) hl ha
  refine (callsIn_wide.1 (ZCP Fence.wide trivial trivial trivial trivial rfl Z1m (Zvr ok) hT 3 (by omega) k xs r hl ha b o cap a w hrow)).mono ?_
  rintro e w' ⟨rfl, hb⟩
  refine ⟨_, fz, rfl, hb, fun _ _ h => h, fun _ _ h _ => h, fun b c h => ?_, .lit hw .nil, rfl⟩
  obtain ⟨u, hu⟩ := hcells b c h
  exact ⟨u, (hb.cell (p := ⟨b, c, none⟩) (cell_lt hu)).trans hu⟩
theorem ZnJ : Z1p Tryz.prog B0 141 ZqS := Zsj ZiS fun k s _ => ZCc k s
end Go.Proofs.YtefmbgacbhifdaaGreat
namespace Go.Proofs.YtefmbgacbhifdaaGreat
open Go Go.Proofs.YtefmbgacbhifdaaGreat.Le
set_option maxRecDepth 100000
inductive ZbF where
 | b0 (a0 : List (List Int))
 | b1 (a0 : List Int) (a1 : List (List Int)) (a2 a3 : Int)
noncomputable def Z42 : ZbF -> Tr U ((List Int) ⊕ ZbF)
 | .b0 a0 => .chk (([] : List Int).length == 0) ( .leaf (.inr (.b1 ([] : List Int) a0 (↑a0.length : Int) (0 : Int))))
 | .b1 a0 a1 a2 a3 => .br (decide (a3 < a2)) ( .chk (decide (0 <= a3 /\ a3 < (↑a1.length : Int))) ( .bind 27 (a1[(Int.toNat a3)]?) (fun (x1 : List Int) => .chk (a0.length == a0.length) ( .chk (decide ((a0.length + x1.length) * 1 <= lim) && decide (a0.length + x1.length <= maxLen)) ( .chk ((a0 ++ x1).length == (a0 ++ x1).length) ( .leaf (.inr (.b1 (a0 ++ x1) a1 a2 (w64 (a3 + (1 : Int))))))))))) ( .chk (a0.length == a0.length) ( .leaf (.inl a0)))
noncomputable def ZN (a0 : List (List Int)) : Option (List Int) := ZT Z42 (.b0 a0)
noncomputable def ZoB : Mod U := ⟨[73], 27, fun x => ZN x.1, by decide⟩
def Zd3 : Lay := ⟨[3, 6, 7, 8], [[.own 5 1], [.s 27 1], [.keep], [.keep]], [.row true], ⟨[.one (.own 5 0), .one (.v 73 1 false), .one (.v 3 1 false), .one (.v 3 1 false)], [.row 5 true]⟩⟩
def Zob : Nat -> Option Lay
 | 3 => some Zd3
 | _ => none
noncomputable def Zm6 : ZbF -> Z14 U
 | .b0 a0 => Z26 Tryz.f142 [73] (a0, ())
 | .b1 a0 a1 a2 a3 => spL Tryz.f142 [1, 1, 0, 1, 0, 0, 0] Zd3 (((), ((a1, ()), ((a2, ()), ((a3, ()), ())))), (a0, ()))
theorem ZlN : Z28 142 Tryz.f142 msN hsN Zob 27 Z42 Zm6
 | .b0 _ => by kernel_rfl
 | .b1 _ _ _ _ => by kernel_rfl
theorem Z0l : Z1p Tryz.prog B0 142 ZoB := okP ZlN (fun x => .b0 x.1) (by kernel_rfl) Tryz.func142 (by kernel_rfl) (by kernel_rfl) (fun _ => rfl) (fun _ => rfl)
inductive Z9H where
 | b0 (a0 : Int)
noncomputable def Za2 : Z9H -> Tr U (Bool ⊕ Z9H)
 | .b0 a0 => .br (decide (a0 >= (1 : Int))) ( .leaf (.inl (decide (a0 <= (8 : Int))))) ( .leaf (.inl false))
noncomputable def Z6Q (a0 : Int) : Option Bool := ZT Za2 (.b0 a0)
noncomputable def ZmU : Mod U := ⟨[3], 4, fun x => Z6Q x.1, by decide⟩
noncomputable def Zkx : Z9H -> Z14 U
 | .b0 a0 => Z26 Tryz.f235 [3] (a0, ())
theorem Zj8 : Z28 235 Tryz.f235 msN hsN AN 4 Za2 Zkx
 | .b0 _ => by kernel_rfl
theorem Zde : Z1p Tryz.prog B0 235 ZmU := okP Zj8 (fun x => .b0 x.1) (by kernel_rfl) Tryz.func235 (by kernel_rfl) (by kernel_rfl) (fun _ => rfl) (fun _ => rfl)
inductive Zcr where
 | b0 (a0 : List Zx)
 | b1 (a0 : List Int) (a1 : List Zx) (a2 a3 : Int)
 | b2 (a0 : List Int) (a1 : List Zx) (a2 a3 : Int) (a4 : Zx)
 | b3 (a0 : List Int) (a1 : List Zx) (a2 a3 a4 a5 : Int) (a6 : Zx)
noncomputable def Z13 : Zcr -> Tr U (((List Int) × Int) ⊕ Zcr)
 | .b0 a0 => .chk (([] : List Int).length == 0) ( .leaf (.inr (.b1 ([] : List Int) a0 (↑a0.length : Int) (0 : Int))))
 | .b1 a0 a1 a2 a3 => .br (decide (a3 < a2)) ( .chk (decide (0 <= a3 /\ a3 < (↑a1.length : Int))) ( .bind 287 (a1[(Int.toNat a3)]?) (fun (x1 : Zx) => .bind 4 (Z6Q x1.Size) (fun (x2 : Bool) => .br (!x2) ( .chk (([] : List Int).length == 0) ( .leaf (.inl (([] : List Int), (5 : Int))))) ( .br (decide (x1.Size < (8 : Int))) ( .chk (decide (0 <= (w64 ((8 : Int) * x1.Size)))) ( .br ((Int.fdiv x1.Value (2 ^ (min (Int.toNat (w64 ((8 : Int) * x1.Size))) (IntKind.bits .u64)))) != (0 : Int)) ( .chk (([] : List Int).length == 0) ( .leaf (.inl (([] : List Int), (5 : Int))))) ( .chk (a0.length == a0.length) ( .leaf (.inr (.b2 a0 a1 a2 a3 x1)))))) ( .chk (a0.length == a0.length) ( .leaf (.inr (.b2 a0 a1 a2 a3 x1))))))))) ( .chk (a0.length == a0.length) ( .leaf (.inl (a0, (0 : Int)))))
 | .b2 a0 a1 a2 a3 a4 => .chk (a0.length == a0.length) ( .leaf (.inr (.b3 a0 a1 a2 a3 a4.Size (0 : Int) a4)))
 | .b3 a0 a1 a2 a3 a4 a5 a6 => .br (decide (a5 < a4)) ( .chk (decide (0 <= (w64 ((8 : Int) * a5)))) ( .chk (([(IntKind.wrap .u8 ((Int.fdiv a6.Value (2 ^ (min (Int.toNat (w64 ((8 : Int) * a5))) (IntKind.bits .u64))))))]).length == 1) ( .chk (a0.length == a0.length) ( .chk (decide ((a0.length + ([(IntKind.wrap .u8 ((Int.fdiv a6.Value (2 ^ (min (Int.toNat (w64 ((8 : Int) * a5))) (IntKind.bits .u64))))))]).length) * 1 <= lim) && decide (a0.length + ([(IntKind.wrap .u8 ((Int.fdiv a6.Value (2 ^ (min (Int.toNat (w64 ((8 : Int) * a5))) (IntKind.bits .u64))))))]).length <= maxLen)) ( .chk ((a0 ++ [(IntKind.wrap .u8 ((Int.fdiv a6.Value (2 ^ (min (Int.toNat (w64 ((8 : Int) * a5))) (IntKind.bits .u64))))))]).length == (a0 ++ [(IntKind.wrap .u8 ((Int.fdiv a6.Value (2 ^ (min (Int.toNat (w64 ((8 : Int) * a5))) (IntKind.bits .u64))))))]).length) ( .leaf (.inr (.b3 (a0 ++ [(IntKind.wrap .u8 ((Int.fdiv a6.Value (2 ^ (min (Int.toNat (w64 ((8 : Int) * a5))) (IntKind.bits .u64))))))]) a1 a2 a3 a4 (w64 (a5 + (1 : Int))) a6)))))))) ( .chk (a0.length == a0.length) ( .leaf (.inr (.b1 a0 a1 a2 (w64 (a3 + (1 : Int)))))))
noncomputable def Z2Y (a0 : List Zx) : Option ((List Int) × Int) := ZT Z13 (.b0 a0)
noncomputable def Zqp : Mod U := ⟨[285], 205, fun x => Z2Y x.1, by decide⟩
def ZeR : Lay := ⟨[4, 8, 9, 10], [[.own 5 1], [.s 287 2], [.keep], [.keep]], [.row true], ⟨[.one (.own 5 0), .one (.v 285 1 false), .one (.v 3 1 false), .one (.v 3 1 false)], [.row 5 true]⟩⟩
def ZeI : Lay := ⟨[4, 6, 8, 9, 10], [[.own 5 1], [.keep], [.s 287 2], [.keep], [.keep]], [.row true, .var [.keep, .keep]], ⟨[.one (.own 5 0), .one (.ptr 1), .one (.v 285 1 false), .one (.v 3 1 false), .one (.v 3 1 false)], [.row 5 true, .var 287 2 (.agg [.v 287 2 true])]⟩⟩
def Zei : Lay := ⟨[4, 6, 8, 9, 10, 33, 34], [[.own 5 1], [.keep], [.s 287 2], [.keep], [.keep], [.keep], [.keep]], [.row true, .var [.keep, .keep]], ⟨[.one (.own 5 0), .one (.ptr 1), .one (.v 285 1 false), .one (.v 3 1 false), .one (.v 3 1 false), .one (.v 3 1 false), .one (.v 3 1 false)], [.row 5 true, .var 287 2 (.agg [.v 287 2 true])]⟩⟩
def Zrp : Nat -> Option Lay
 | 3 => some ZeR
 | 7 => some ZeI
 | 8 => some Zei
 | _ => none
noncomputable def Zpb : Zcr -> Z14 U
 | .b0 a0 => Z26 Tryz.f223 [285] (a0, ())
 | .b1 a0 a1 a2 a3 => spL Tryz.f223 [1, 1, 0, 1, 0, 0, 0] ZeR (((), ((a1, ()), ((a2, ()), ((a3, ()), ())))), (a0, ()))
 | .b2 a0 a1 a2 a3 a4 => spL Tryz.f223 [1, 1, 0, 1, 0, 0, 1, 1, 0, 0, 1, 1, 0] ZeI (((), ((), ((a1, ()), ((a2, ()), ((a3, ()), ()))))), (a0, ((a4, ()), ())))
 | .b3 a0 a1 a2 a3 a4 a5 a6 => spL Tryz.f223 [1, 1, 0, 1, 0, 0, 1, 1, 0, 0, 1, 1, 1, 0, 0, 0] Zei (((), ((), ((a1, ()), ((a2, ()), ((a3, ()), ((a4, ()), ((a5, ()), ()))))))), (a0, ((a6, ()), ())))
theorem Zmn : Z28 223 Tryz.f223 (mc Zde msN) hsN Zrp 205 Z13 Zpb
 | .b0 _ => by kernel_rfl
 | .b1 _ _ _ _ => by kernel_rfl
 | .b2 _ _ _ _ _ => by kernel_rfl
 | .b3 _ _ _ _ _ _ _ => by kernel_rfl
theorem ZbH : Z1p Tryz.prog B0 223 Zqp := okP Zmn (fun x => .b0 x.1) (by kernel_rfl) Tryz.func223 (by kernel_rfl) (by kernel_rfl) (fun _ => rfl) (fun _ => rfl)
inductive Zf4 where
 | b0 (a0 : List Int)
 | b1 (a0 : List Zx) (a1 : List Int) (a2 a3 : Int)
noncomputable def Z6e : Zf4 -> Tr U ((List Int) ⊕ Zf4)
 | .b0 a0 => .chk (([] : List Zx).length == 0) ( .leaf (.inr (.b1 ([] : List Zx) a0 (↑a0.length : Int) (0 : Int))))
 | .b1 a0 a1 a2 a3 => .br (decide (a3 < a2)) ( .chk (decide (0 <= a3 /\ a3 < (↑a1.length : Int))) ( .bind 23 (a1[(Int.toNat a3)]?) (fun (x1 : Int) => .chk (([(⟨(8 : Int), x1⟩ : Zx)]).length == 1) ( .chk (a0.length == a0.length) ( .chk (decide ((a0.length + ([(⟨(8 : Int), x1⟩ : Zx)]).length) * 16 <= lim) && decide (a0.length + ([(⟨(8 : Int), x1⟩ : Zx)]).length <= maxLen)) ( .chk ((a0 ++ [(⟨(8 : Int), x1⟩ : Zx)]).length == (a0 ++ [(⟨(8 : Int), x1⟩ : Zx)]).length) ( .leaf (.inr (.b1 (a0 ++ [(⟨(8 : Int), x1⟩ : Zx)]) a1 a2 (w64 (a3 + (1 : Int)))))))))))) ( .chk (a0.length == a0.length) ( .bind 205 (Z2Y a0) (fun (x2 : (List Int) × Int) => .leaf (.inl x2.1))))
noncomputable def Z4V (a0 : List Int) : Option (List Int) := ZT Z6e (.b0 a0)
noncomputable def ZrO : Mod U := ⟨[188], 27, fun x => Z4V x.1, by decide⟩
def Zhn : Lay := ⟨[3, 8, 9, 10], [[.own 287 2], [.s 23 1], [.keep], [.keep]], [.row true], ⟨[.one (.own 287 0), .one (.v 188 1 false), .one (.v 3 1 false), .one (.v 3 1 false)], [.row 287 true]⟩⟩
def Zs5 : Nat -> Option Lay
 | 3 => some Zhn
 | _ => none
noncomputable def Zr0 : Zf4 -> Z14 U
 | .b0 a0 => Z26 Tryz.f143 [188] (a0, ())
 | .b1 a0 a1 a2 a3 => spL Tryz.f143 [1, 1, 0, 1, 0, 0, 0] Zhn (((), ((a1, ()), ((a2, ()), ((a3, ()), ())))), (a0, ()))
theorem Zoi : Z28 143 Tryz.f143 (mc ZbH msN) hsN Zs5 27 Z6e Zr0
 | .b0 _ => by kernel_rfl
 | .b1 _ _ _ _ => by kernel_rfl
theorem Zcz : Z1p Tryz.prog B0 143 ZrO := okP Zoi (fun x => .b0 x.1) (by kernel_rfl) Tryz.func143 (by kernel_rfl) (by kernel_rfl) (fun _ => rfl) (fun _ => rfl)
inductive ZdF where
 | b0 (a0 : Int) (a1 : ByteArray) (a2 : List Int)
noncomputable def Zd5 : ZdF -> Tr U (Int ⊕ ZdF)
 | .b0 a0 a1 a2 => .chk (Zz8 U 5 a1) ( .bind 27 (Z4V a2) (fun (x1 : List Int) => .chk ((Z2j U 5 a1).length == (Z2j U 5 a1).length) ( .chk (([(0 : Int)]).length == 1) ( .chk (([(Z2j U 5 a1), [(0 : Int)], x1]).length == 3) ( .bind 27 (ZN ([(Z2j U 5 a1), [(0 : Int)], x1])) (fun (x2 : List Int) => .bind 23 (ZcY a0 x2) (fun (x3 : Int) => .leaf (.inl x3))))))))
noncomputable def Z30 (a0 : Int) (a1 : ByteArray) (a2 : List Int) : Option Int := ZT Zd5 (.b0 a0 a1 a2)
noncomputable def ZpY : Mod U := ⟨[24, 9, 188], 24, fun x => Z30 x.1 x.2.1 x.2.2.1, by decide⟩
noncomputable def ZoN : ZdF -> Z14 U
 | .b0 a0 a1 a2 => Z26 Tryz.f60 [24, 9, 188] (a0, a1, a2, ())
theorem Zmc : Z28 60 Tryz.f60 (mc ZnJ (mc Z0l (mc Zcz msN))) hsN AN 24 Zd5 ZoN
 | .b0 _ _ _ => by kernel_rfl
theorem Zba : Z1p Tryz.prog B0 60 ZpY := okP Zmc (fun x => .b0 x.1 x.2.1 x.2.2.1) (by kernel_rfl) Tryz.func60 (by kernel_rfl) (by kernel_rfl) (fun _ => rfl) (fun _ => rfl)
inductive Z7D where
 | b0 (a0 : Int)
noncomputable def Z7s : Z7D -> Tr U (Zn ⊕ Z7D)
 | .b0 a0 => .bind 24 (Z30 a0 (⟨#[110, 105, 100]⟩ : ByteArray) ([])) (fun (x1 : Int) => .bind 24 (Z30 a0 (⟨#[101, 110, 99, 114, 121, 112, 116]⟩ : ByteArray) ([])) (fun (x2 : Int) => .bind 24 (Z30 a0 (⟨#[104, 105, 100, 101]⟩ : ByteArray) ([])) (fun (x3 : Int) => .bind 24 (Z30 a0 (⟨#[98, 101, 97, 99, 111, 110]⟩ : ByteArray) ([])) (fun (x4 : Int) => .leaf (.inl (⟨a0, (w64 ((Int.tmod x1 (128 : Int)))), x2, x3, x4⟩ : Zn))))))
noncomputable def Z4J (a0 : Int) : Option Zn := ZT Z7s (.b0 a0)
noncomputable def ZjA : Mod U := ⟨[24], 30, fun x => Z4J x.1, by decide⟩
noncomputable def Zhw : Z7D -> Z14 U
 | .b0 a0 => Z26 Tryz.f24 [24] (a0, ())
theorem ZfY : Z28 24 Tryz.f24 (mc Zba msN) hsN AN 30 Z7s Zhw
 | .b0 _ => by kernel_rfl
theorem ZaA : Z1p Tryz.prog B0 24 ZjA := okP ZfY (fun x => .b0 x.1) (by kernel_rfl) Tryz.func24 (by kernel_rfl) (by kernel_rfl) (fun _ => rfl) (fun _ => rfl)
inductive ZhU where
 | b0 (a0 a1 a2 a3 : Int) (a4 a5 : Bool)
noncomputable def Zi4 : ZhU -> Tr U ((Zg × Int) ⊕ ZhU)
 | .b0 a0 a1 a2 a3 a4 a5 => .bind 4 (Z2p a0) (fun (x1 : Bool) => .br (!x1) ( .leaf (.inl (Zi5, (1 : Int)))) ( .bind 30 (Z4J a3) (fun (x2 : Zn) => .leaf (.inl ((⟨a0, a1, a2, (⟨(0 : Int), x2, Z16⟩ : Z0R), Z1I, (0 : Int), a4, a5, [], [], [], (⟨[], []⟩ : Zf), Z78, Z4D, [], (0 : Int), true⟩ : Zg), (0 : Int))))))
noncomputable def Z4a (a0 a1 a2 a3 : Int) (a4 a5 : Bool) : Option (Zg × Int) := ZT Zi4 (.b0 a0 a1 a2 a3 a4 a5)
noncomputable def ZuP : Mod U := ⟨[22, 24, 24, 24, 4, 4], 52, fun x => Z4a x.1 x.2.1 x.2.2.1 x.2.2.2.1 x.2.2.2.2.1 x.2.2.2.2.2.1, by decide⟩
noncomputable def Zsm : ZhU -> Z14 U
 | .b0 a0 a1 a2 a3 a4 a5 => Z26 Tryz.f9 [22, 24, 24, 24, 4, 4] (a0, a1, a2, a3, a4, a5, ())
theorem Zqn : Z28 9 Tryz.f9 (mc Z6M (mc ZaA msN)) hsN AN 52 Zi4 Zsm
 | .b0 _ _ _ _ _ _ => by kernel_rfl
theorem Zl6 : Z1p Tryz.prog B0 9 ZuP := okP Zqn (fun x => .b0 x.1 x.2.1 x.2.2.1 x.2.2.2.1 x.2.2.2.2.1 x.2.2.2.2.2.1) (by kernel_rfl) Tryz.func9 (by kernel_rfl) (by kernel_rfl) (fun _ => rfl) (fun _ => rfl)
inductive Z9F where
 | b0 (a0 : Int)
noncomputable def ZeF : Z9F -> Tr U (Bool ⊕ Z9F)
 | .b0 a0 => .leaf (.inl (decide (a0 >= (49152 : Int))))
noncomputable def Z4G (a0 : Int) : Option Bool := ZT ZeF (.b0 a0)
noncomputable def Zmt : Mod U := ⟨[22], 4, fun x => Z4G x.1, by decide⟩
noncomputable def Zkf : Z9F -> Z14 U
 | .b0 a0 => Z26 Tryz.f62 [22] (a0, ())
theorem ZjO : Z28 62 Tryz.f62 msN hsN AN 4 ZeF Zkf
 | .b0 _ => by kernel_rfl
theorem Z8J : Z1p Tryz.prog B0 62 Zmt := okP ZjO (fun x => .b0 x.1) (by kernel_rfl) Tryz.func62 (by kernel_rfl) (by kernel_rfl) (fun _ => rfl) (fun _ => rfl)
inductive ZcJ where
 | b0 (a0 : Z0D)
 | b1 (a0 : Z0D)
 | b2 (a0 : Z0D)
noncomputable def Z55 : ZcJ -> Tr U (Int ⊕ ZcJ)
 | .b0 a0 => .br a0.Zk2 ( .br (a0.Index != (0 : Int)) ( .leaf (.inr (.b1 a0))) ( .leaf (.inr (.b2 a0)))) ( .leaf (.inr (.b2 a0)))
 | .b1 a0 => .leaf (.inl (IntKind.wrap .u32 (a0.Index - (1 : Int))))
 | .b2 a0 => .leaf (.inl a0.Index)
noncomputable def Z9d (a0 : Z0D) : Option Int := ZT Z55 (.b0 a0)
noncomputable def Zqs : Mod U := ⟨[35], 33, fun x => Z9d x.1, by decide⟩
def Zex : Lay := ⟨[1], [[.keep]], [.var k3], ⟨[.one (.ptr 0)], [.var 35 3 (.agg [.v 35 3 true])]⟩⟩
def ZeS : Lay := ⟨[1], [[.keep]], [.var k3], ⟨[.one (.ptr 0)], [.var 35 3 (.agg [.v 35 3 true])]⟩⟩
def Zqe : Nat -> Option Lay
 | 2 => some Zex
 | 3 => some ZeS
 | _ => none
noncomputable def Zoj : ZcJ -> Z14 U
 | .b0 a0 => Z26 Tryz.f63 [35] (a0, ())
 | .b1 a0 => spL Tryz.f63 [1, 0, 1, 0, 0] Zex (((), ()), ((a0, ()), ()))
 | .b2 a0 => spL Tryz.f63 [1, 1, 0] ZeS (((), ()), ((a0, ()), ()))
theorem ZmX : Z28 63 Tryz.f63 msN hsN Zqe 33 Z55 Zoj
 | .b0 _ => by kernel_rfl
 | .b1 _ => by kernel_rfl
 | .b2 _ => by kernel_rfl
theorem Zhe : Z1p Tryz.prog B0 63 Zqs := okP ZmX (fun x => .b0 x.1) (by kernel_rfl) Tryz.func63 (by kernel_rfl) (by kernel_rfl) (fun _ => rfl) (fun _ => rfl)
inductive Z8n where
 | b0 (a0 : List Int)
noncomputable def Z8d : Z8n -> Tr U (Int ⊕ Z8n)
 | .b0 a0 => .bind 24 (Z30 (0 : Int) (⟨#[110, 111, 110, 99, 101]⟩ : ByteArray) a0) (fun (x1 : Int) => .leaf (.inl x1))
noncomputable def Z8u (a0 : List Int) : Option Int := ZT Z8d (.b0 a0)
noncomputable def Zky : Mod U := ⟨[188], 23, fun x => Z8u x.1, by decide⟩
noncomputable def Zjl : Z8n -> Z14 U
 | .b0 a0 => Z26 Tryz.f279 [188] (a0, ())
theorem Ziy : Z28 279 Tryz.f279 (mc Zba msN) hsN AN 23 Z8d Zjl
 | .b0 _ => by kernel_rfl
theorem ZjF : Z1p Tryz.prog B0 279 Zky := okP Ziy (fun x => .b0 x.1) (by kernel_rfl) Tryz.func279 (by kernel_rfl) (by kernel_rfl) (fun _ => rfl) (fun _ => rfl)
inductive Z8V where
 | b0 (a0 a1 a2 a3 : Int)
noncomputable def Z8e : Z8V -> Tr U (Int ⊕ Z8V)
 | .b0 a0 a1 a2 a3 => .chk (([(IntKind.wrap .u64 (a0)), (IntKind.wrap .u64 (a1)), (IntKind.wrap .u64 (a2)), (IntKind.wrap .u64 (a3))]).length == 4) ( .bind 23 (Z8u ([(IntKind.wrap .u64 (a0)), (IntKind.wrap .u64 (a1)), (IntKind.wrap .u64 (a2)), (IntKind.wrap .u64 (a3))])) (fun (x1 : Int) => .leaf (.inl x1)))
noncomputable def Z2M (a0 a1 a2 a3 : Int) : Option Int := ZT Z8e (.b0 a0 a1 a2 a3)
noncomputable def Zlu : Mod U := ⟨[3, 22, 33, 33], 23, fun x => Z2M x.1 x.2.1 x.2.2.1 x.2.2.2.1, by decide⟩
noncomputable def Zjz : Z8V -> Z14 U
 | .b0 a0 a1 a2 a3 => Z26 Tryz.f224 [3, 22, 33, 33] (a0, a1, a2, a3, ())
theorem Zij : Z28 224 Tryz.f224 (mc ZjF msN) hsN AN 23 Z8e Zjz
 | .b0 _ _ _ _ => by kernel_rfl
theorem Z7G : Z1p Tryz.prog B0 224 Zlu := okP Zij (fun x => .b0 x.1 x.2.1 x.2.2.1 x.2.2.2.1) (by kernel_rfl) Tryz.func224 (by kernel_rfl) (by kernel_rfl) (fun _ => rfl) (fun _ => rfl)
inductive Z7r where
 | b0 (a0 : Bool) (a1 : Zd) (a2 : Int)
 | b1 (a0 a1 : Int) (a2 : Zd)
noncomputable def Z2e : Z7r -> Tr U ((Int × (List Int)) ⊕ Z7r)
 | .b0 a0 a1 a2 => .br a0 ( .leaf (.inr (.b1 a2 (1 : Int) a1))) ( .leaf (.inr (.b1 a2 (2 : Int) a1)))
 | .b1 a0 a1 a2 => .bind 23 (Z2M a1 a2.Src a2.Seq a2.IV) (fun (x1 : Int) => .chk (([(IntKind.wrap .u8 (a0)), (IntKind.wrap .u8 ((Int.fdiv a0 (2 ^ (8 : Nat)))))]).length == 2) ( .leaf (.inl (x1, [(IntKind.wrap .u8 (a0)), (IntKind.wrap .u8 ((Int.fdiv a0 (2 ^ (8 : Nat)))))]))))
noncomputable def Z3g (a0 : Bool) (a1 : Zd) (a2 : Int) : Option (Int × (List Int)) := ZT Z2e (.b0 a0 a1 a2)
noncomputable def Zjx : Mod U := ⟨[4, 64, 22], 230, fun x => Z3g x.1 x.2.1 x.2.2.1, by decide⟩
def Z9m : Lay := ⟨[2, 4, 8], [[.keep], [.keep], [.keep]], [.var k3], ⟨[.one (.v 22 1 false), .one (.ptr 0), .one (.v 3 1 false)], [.var 64 3 (.agg [.v 64 3 true])]⟩⟩
def Zjd : Nat -> Option Lay
 | 4 => some Z9m
 | _ => none
noncomputable def ZhJ : Z7r -> Z14 U
 | .b0 a0 a1 a2 => Z26 Tryz.f144 [4, 64, 22] (a0, a1, a2, ())
 | .b1 a0 a1 a2 => spL Tryz.f144 [1, 1, 1, 0] Z9m (((a0, ()), ((), ((a1, ()), ()))), ((a2, ()), ()))
theorem Zgo : Z28 144 Tryz.f144 (mc Z7G msN) hsN Zjd 230 Z2e ZhJ
 | .b0 _ _ _ => by kernel_rfl
 | .b1 _ _ _ => by kernel_rfl
theorem Zay : Z1p Tryz.prog B0 144 Zjx := okP Zgo (fun x => .b0 x.1 x.2.1 x.2.2.1) (by kernel_rfl) Tryz.func144 (by kernel_rfl) (by kernel_rfl) (fun _ => rfl) (fun _ => rfl)
inductive Zd1 where
 | b0 (a0 a1 : List Int)
 | b1 (a0 a1 a2 : List Int) (a3 a4 : Int)
noncomputable def Z5c : Zd1 -> Tr U ((List Int) ⊕ Zd1)
 | .b0 a0 a1 => .chk (decide (0 <= (if (↑a1.length : Int) < (↑a0.length : Int) then (↑a1.length : Int) else (↑a0.length : Int)) /\ (if (↑a1.length : Int) < (↑a0.length : Int) then (↑a1.length : Int) else (↑a0.length : Int)) <= (if (↑a1.length : Int) < (↑a0.length : Int) then (↑a1.length : Int) else (↑a0.length : Int)) /\ Int.toNat (if (↑a1.length : Int) < (↑a0.length : Int) then (↑a1.length : Int) else (↑a0.length : Int)) * 1 <= lim /\ (if (↑a1.length : Int) < (↑a0.length : Int) then (↑a1.length : Int) else (↑a0.length : Int)) <= (↑maxLen : Int))) ( .chk ((List.replicate (Int.toNat (if (↑a1.length : Int) < (↑a0.length : Int) then (↑a1.length : Int) else (↑a0.length : Int))) (0 : Int)).length == (List.replicate (Int.toNat (if (↑a1.length : Int) < (↑a0.length : Int) then (↑a1.length : Int) else (↑a0.length : Int))) (0 : Int)).length) ( .chk ((List.replicate (Int.toNat (if (↑a1.length : Int) < (↑a0.length : Int) then (↑a1.length : Int) else (↑a0.length : Int))) (0 : Int)).length == (List.replicate (Int.toNat (if (↑a1.length : Int) < (↑a0.length : Int) then (↑a1.length : Int) else (↑a0.length : Int))) (0 : Int)).length) ( .leaf (.inr (.b1 a0 a1 (List.replicate (Int.toNat (if (↑a1.length : Int) < (↑a0.length : Int) then (↑a1.length : Int) else (↑a0.length : Int))) (0 : Int)) (↑((List.replicate (Int.toNat (if (↑a1.length : Int) < (↑a0.length : Int) then (↑a1.length : Int) else (↑a0.length : Int))) (0 : Int)).length) : Int) (0 : Int))))))
 | .b1 a0 a1 a2 a3 a4 => .br (decide (a4 < a3)) ( .chk (decide (0 <= a4 /\ a4 < (↑a0.length : Int))) ( .bind 5 (a0[(Int.toNat a4)]?) (fun (x1 : Int) => .chk (decide (0 <= a4 /\ a4 < (↑a1.length : Int))) ( .bind 5 (a1[(Int.toNat a4)]?) (fun (x2 : Int) => .chk (a2.length == a2.length) ( .chk (decide (0 <= a4 /\ a4 < (↑a2.length : Int))) ( .chk (a2.length == a2.length && decide (0 <= (Int.toNat a4))) ( .bind 5 (a2[(Int.toNat a4)]?) (fun (x3 : Int) => .chk ((a2.set (Int.toNat a4) (bits .xor .u8 x1 x2)).length == a2.length) ( .leaf (.inr (.b1 a0 a1 (a2.set (Int.toNat a4) (bits .xor .u8 x1 x2)) a3 (w64 (a4 + (1 : Int))))))))))))))) ( .chk (a2.length == a2.length) ( .leaf (.inl a2)))
noncomputable def Z9y (a0 a1 : List Int) : Option (List Int) := ZT Z5c (.b0 a0 a1)
noncomputable def Zrj : Mod U := ⟨[27, 27], 27, fun x => Z9y x.1 x.2.1, by decide⟩
def ZeG : Lay := ⟨[0, 1, 5, 14, 15], [[.s 5 1], [.s 5 1], [.own 5 1], [.keep], [.keep]], [.row true], ⟨[.one (.v 27 1 false), .one (.v 27 1 false), .one (.own 5 0), .one (.v 3 1 false), .one (.v 3 1 false)], [.row 5 true]⟩⟩
def Zqa : Nat -> Option Lay
 | 3 => some ZeG
 | _ => none
noncomputable def ZoZ : Zd1 -> Z14 U
 | .b0 a0 a1 => Z26 Tryz.f225 [27, 27] (a0, a1, ())
 | .b1 a0 a1 a2 a3 a4 => spL Tryz.f225 [1, 1, 0, 1, 0, 0, 0] ZeG (((a0, ()), ((a1, ()), ((), ((a3, ()), ((a4, ()), ()))))), (a2, ()))
theorem Zmp : Z28 225 Tryz.f225 msN hsN Zqa 27 Z5c ZoZ
 | .b0 _ _ => by kernel_rfl
 | .b1 _ _ _ _ _ => by kernel_rfl
theorem Zgv : Z1p Tryz.prog B0 225 Zrj := okP Zmp (fun x => .b0 x.1 x.2.1) (by kernel_rfl) Tryz.func225 (by kernel_rfl) (by kernel_rfl) (fun _ => rfl) (fun _ => rfl)
inductive ZcA where
 | b0 (a0 a1 a2 : Int)
 | b1 (a0 a1 a2 : Int) (a3 : List Int) (a4 : Int)
noncomputable def Z56 : ZcA -> Tr U ((List Int) ⊕ ZcA)
 | .b0 a0 a1 a2 => .bind 23 (Z1m a0 a1) (fun (x1 : Int) => .chk (decide (0 <= (0 : Int) /\ (0 : Int) <= (w64 (a2 + (8 : Int))) /\ Int.toNat (w64 (a2 + (8 : Int))) * 1 <= lim /\ (w64 (a2 + (8 : Int))) <= (↑maxLen : Int))) ( .chk ((List.replicate (Int.toNat (0 : Int)) (0 : Int)).length == (List.replicate (Int.toNat (0 : Int)) (0 : Int)).length) ( .leaf (.inr (.b1 a0 a2 x1 (List.replicate (Int.toNat (0 : Int)) (0 : Int)) (0 : Int))))))
 | .b1 a0 a1 a2 a3 a4 => .chk (a3.length == a3.length) ( .br (decide ((↑a3.length : Int) < a1)) ( .bind 23 (Z1m a0 (IntKind.wrap .u64 (a2 + a4))) (fun (x1 : Int) => .chk (([x1]).length == 1) ( .bind 27 (Z4V ([x1])) (fun (x2 : List Int) => .chk (a3.length == a3.length) ( .chk (decide ((a3.length + x2.length) * 1 <= lim) && decide (a3.length + x2.length <= maxLen)) ( .chk ((a3 ++ x2).length == (a3 ++ x2).length) ( .leaf (.inr (.b1 a0 a1 a2 (a3 ++ x2) (IntKind.wrap .u64 (a4 + (1 : Int)))))))))))) ( .chk (a3.length == a3.length) ( .chk (decide (0 <= a1 /\ a1 <= (↑a3.length : Int))) ( .chk (decide (0 <= a1 /\ a1 <= (↑a3.length : Int))) ( .chk ((Int.toNat a1) == (Int.toNat a1)) ( .chk (a3.length == a3.length) ( .leaf (.inl ((a3.drop 0).take ((Int.toNat a1) - 0))))))))))
noncomputable def Z9q (a0 a1 a2 : Int) : Option (List Int) := ZT Z56 (.b0 a0 a1 a2)
noncomputable def ZqQ : Mod U := ⟨[24, 23, 3], 27, fun x => Z9q x.1 x.2.1 x.2.2.1, by decide⟩
def Zes : Lay := ⟨[0, 2, 7, 8, 9], [[.keep], [.keep], [.keep], [.own 5 1], [.keep]], [.row true], ⟨[.one (.v 24 1 false), .one (.v 3 1 false), .one (.v 23 1 false), .one (.own 5 0), .one (.v 23 1 false)], [.row 5 true]⟩⟩
def Zq1 : Nat -> Option Lay
 | 4 => some Zes
 | _ => none
noncomputable def Zoc : ZcA -> Z14 U
 | .b0 a0 a1 a2 => Z26 Tryz.f226 [24, 23, 3] (a0, a1, a2, ())
 | .b1 a0 a1 a2 a3 a4 => spL Tryz.f226 [1, 1, 1, 0, 1, 0, 0, 0, 0] Zes (((a0, ()), ((a1, ()), ((a2, ()), ((), ((a4, ()), ()))))), (a3, ()))
theorem Zm0 : Z28 226 Tryz.f226 (mc Zcz (mc ZiS msN)) hsN Zq1 27 Z56 Zoc
 | .b0 _ _ _ => by kernel_rfl
 | .b1 _ _ _ _ _ => by kernel_rfl
theorem Zgp : Z1p Tryz.prog B0 226 ZqQ := okP Zm0 (fun x => .b0 x.1 x.2.1 x.2.2.1) (by kernel_rfl) Tryz.func226 (by kernel_rfl) (by kernel_rfl) (fun _ => rfl) (fun _ => rfl)
inductive ZhP where
 | b0 (a0 a1 : Int) (a2 a3 : List Int)
noncomputable def Zih : ZhP -> Tr U ((List Int) ⊕ ZhP)
 | .b0 a0 a1 a2 a3 => .chk (([(⟨(4 : Int), (IntKind.wrap .u64 ((IntKind.wrap .u32 ((↑a2.length : Int)))))⟩ : Zx)]).length == 1) ( .bind 205 (Z2Y ([(⟨(4 : Int), (IntKind.wrap .u64 ((IntKind.wrap .u32 ((↑a2.length : Int)))))⟩ : Zx)])) (fun (x1 : (List Int) × Int) => .chk (([a1]).length == 1) ( .bind 27 (Z4V ([a1])) (fun (x2 : List Int) => .chk (([x2, x1.1, a2, a3]).length == 4) ( .bind 27 (ZN ([x2, x1.1, a2, a3])) (fun (x3 : List Int) => .bind 23 (ZcY a0 x3) (fun (x4 : Int) => .chk (([x4]).length == 1) ( .bind 27 (Z4V ([x4])) (fun (x5 : List Int) => .chk (decide (0 <= (4 : Int) /\ (4 : Int) <= (↑x5.length : Int))) ( .leaf (.inl ((x5.drop 0).take ((Int.toNat (4 : Int)) - 0)))))))))))))
noncomputable def ZdN (a0 a1 : Int) (a2 a3 : List Int) : Option (List Int) := ZT Zih (.b0 a0 a1 a2 a3)
noncomputable def ZuW : Mod U := ⟨[24, 23, 27, 27], 27, fun x => ZdN x.1 x.2.1 x.2.2.1 x.2.2.2.1, by decide⟩
noncomputable def Zse : ZhP -> Z14 U
 | .b0 a0 a1 a2 a3 => Z26 Tryz.f227 [24, 23, 27, 27] (a0, a1, a2, a3, ())
theorem ZqJ : Z28 227 Tryz.f227 (mc ZnJ (mc Z0l (mc Zcz (mc ZbH msN)))) hsN AN 27 Zih Zse
 | .b0 _ _ _ _ => by kernel_rfl
theorem Zk7 : Z1p Tryz.prog B0 227 ZuW := okP ZqJ (fun x => .b0 x.1 x.2.1 x.2.2.1 x.2.2.2.1) (by kernel_rfl) Tryz.func227 (by kernel_rfl) (by kernel_rfl) (fun _ => rfl) (fun _ => rfl)
inductive Zit where
 | b0 (a0 a1 : Int) (a2 a3 : List Int)
noncomputable def Zir : Zit -> Tr U ((List Int) ⊕ Zit)
 | .b0 a0 a1 a2 a3 => .bind 27 (Z9q a0 a1 (↑a3.length : Int)) (fun (x1 : List Int) => .bind 27 (Z9y a3 x1) (fun (x2 : List Int) => .bind 27 (ZdN a0 a1 a2 x2) (fun (x3 : List Int) => .chk (([x2, x3]).length == 2) ( .bind 27 (ZN ([x2, x3])) (fun (x4 : List Int) => .leaf (.inl x4))))))
noncomputable def Zaf (a0 a1 : Int) (a2 a3 : List Int) : Option (List Int) := ZT Zir (.b0 a0 a1 a2 a3)
noncomputable def Zv6 : Mod U := ⟨[24, 23, 27, 27], 27, fun x => Zaf x.1 x.2.1 x.2.2.1 x.2.2.2.1, by decide⟩
noncomputable def ZrQ : Zit -> Z14 U
 | .b0 a0 a1 a2 a3 => Z26 Tryz.f145 [24, 23, 27, 27] (a0, a1, a2, a3, ())
theorem ZqP : Z28 145 Tryz.f145 (mc Z0l (mc Zgv (mc Zgp (mc Zk7 msN)))) hsN AN 27 Zir ZrQ
 | .b0 _ _ _ _ => by kernel_rfl
theorem ZkV : Z1p Tryz.prog B0 145 Zv6 := okP ZqP (fun x => .b0 x.1 x.2.1 x.2.2.1 x.2.2.2.1) (by kernel_rfl) Tryz.func145 (by kernel_rfl) (by kernel_rfl) (fun _ => rfl) (fun _ => rfl)
inductive Z6i where
 | b0 (a0 : Int) (a1 : Bool) (a2 : Zd) (a3 : Int) (a4 : List Int)
noncomputable def Z6s : Z6i -> Tr U ((List Int) ⊕ Z6i)
 | .b0 a0 a1 a2 a3 a4 => .bind 230 (Z3g a1 a2 a3) (fun (x1 : Int × (List Int)) => .bind 27 (Zaf a0 x1.1 x1.2 a4) (fun (x2 : List Int) => .leaf (.inl x2)))
noncomputable def Z6k (a0 : Int) (a1 : Bool) (a2 : Zd) (a3 : Int) (a4 : List Int) : Option (List Int) := ZT Z6s (.b0 a0 a1 a2 a3 a4)
noncomputable def Zi8 : Mod U := ⟨[24, 4, 64, 22, 27], 27, fun x => Z6k x.1 x.2.1 x.2.2.1 x.2.2.2.1 x.2.2.2.2.1, by decide⟩
noncomputable def ZfX : Z6i -> Z14 U
 | .b0 a0 a1 a2 a3 a4 => Z26 Tryz.f64 [24, 4, 64, 22, 27] (a0, a1, a2, a3, a4, ())
theorem ZfN : Z28 64 Tryz.f64 (mc Zay (mc ZkV msN)) hsN AN 27 Z6s ZfX
 | .b0 _ _ _ _ _ => by kernel_rfl
theorem Zg3 : Z1p Tryz.prog B0 64 Zi8 := okP ZfN (fun x => .b0 x.1 x.2.1 x.2.2.1 x.2.2.2.1 x.2.2.2.2.1) (by kernel_rfl) Tryz.func64 (by kernel_rfl) (by kernel_rfl) (fun _ => rfl) (fun _ => rfl)
inductive Z5m where
 | b0 (a0 : Z0g) (a1 : Bool)
noncomputable def Z9i : Z5m -> Tr U (Int ⊕ Z5m)
 | .b0 a0 a1 => .br a1 ( .leaf (.inl a0.Node.App)) ( .leaf (.inl a0.Node.Device))
noncomputable def Z2f (a0 : Z0g) (a1 : Bool) : Option Int := ZT Z9i (.b0 a0 a1)
noncomputable def ZgR : Mod U := ⟨[97, 4], 24, fun x => Z2f x.1 x.2.1, by decide⟩
noncomputable def ZfL : Z5m -> Z14 U
 | .b0 a0 a1 => Z26 Tryz.f65 [97, 4] (a0, a1, ())
theorem Zee : Z28 65 Tryz.f65 msN hsN AN 24 Z9i ZfL
 | .b0 _ _ => by kernel_rfl
theorem Z8w : Z1p Tryz.prog B0 65 ZgR := okP Zee (fun x => .b0 x.1 x.2.1) (by kernel_rfl) Tryz.func65 (by kernel_rfl) (by kernel_rfl) (fun _ => rfl) (fun _ => rfl)
inductive Z6J where
 | b0 (a0 : Int)
 | b1 (a0 : Int)
noncomputable def Z2J : Z6J -> Tr U (Int ⊕ Z6J)
 | .b0 a0 => .br (decide (a0 < (1 : Int))) ( .leaf (.inl (0 : Int))) ( .br (decide (a0 > (384 : Int))) ( .leaf (.inl (0 : Int))) ( .leaf (.inr (.b1 a0))))
 | .b1 a0 => .br (decide (a0 <= (15 : Int))) ( .leaf (.inl (1 : Int))) ( .leaf (.inl (w64 (Int.tdiv (w64 ((w64 (a0 + (12 : Int))) - (1 : Int))) (12 : Int)))))
noncomputable def Z6a (a0 : Int) : Option Int := ZT Z2J (.b0 a0)
noncomputable def ZiB : Mod U := ⟨[3], 3, fun x => Z6a x.1, by decide⟩
def Z8k : Lay := ⟨[0], [[.keep]], [], ⟨[.one (.v 3 1 false)], []⟩⟩
def ZhZ : Nat -> Option Lay
 | 3 => some Z8k
 | _ => none
noncomputable def Zg6 : Z6J -> Z14 U
 | .b0 a0 => Z26 Tryz.f228 [3] (a0, ())
 | .b1 a0 => spL Tryz.f228 [1, 0, 0, 1, 1, 0] Z8k (((a0, ()), ()), ())
theorem ZfJ : Z28 228 Tryz.f228 msN hsN ZhZ 3 Z2J Zg6
 | .b0 _ => by kernel_rfl
 | .b1 _ => by kernel_rfl
theorem Zhc : Z1p Tryz.prog B0 228 ZiB := okP ZfJ (fun x => .b0 x.1) (by kernel_rfl) Tryz.func228 (by kernel_rfl) (by kernel_rfl) (fun _ => rfl) (fun _ => rfl)
inductive Z5t where
 | b0 (a0 : Zf) (a1 : Zt)
 | b1 (a0 : Int) (a1 : Zf) (a2 : Zt)
 | b2 (a0 : List Zl) (a1 a2 : Int) (a3 : Zf) (a4 : Zt)
noncomputable def Z0f : Z5t -> Tr U (Int ⊕ Z5t)
 | .b0 a0 a1 => .bind 4 (Z2p a1.Src) (fun (x1 : Bool) => .br (!x1) ( .leaf (.inl (1 : Int))) ( .bind 4 (Z2p a1.Dst) (fun (x2 : Bool) => .br (!x2) ( .bind 4 (Z4G a1.Dst) (fun (x3 : Bool) => .br (!x3) ( .leaf (.inl (1 : Int))) ( .br ((↑a1.Bytes.length : Int) == (0 : Int)) ( .leaf (.inl (1 : Int))) ( .leaf (.inr (.b1 (↑a1.Bytes.length : Int) a0 a1)))))) ( .br ((↑a1.Bytes.length : Int) == (0 : Int)) ( .leaf (.inl (1 : Int))) ( .leaf (.inr (.b1 (↑a1.Bytes.length : Int) a0 a1)))))))
 | .b1 a0 a1 a2 => .br (decide (a0 > (384 : Int))) ( .leaf (.inl (4 : Int))) ( .bind 3 (Z6a a0) (fun (x1 : Int) => .br (decide ((IntKind.wrap .u64 ((IntKind.wrap .u64 ((IntKind.wrap .u64 (a2.Seq.Seq)) + (IntKind.wrap .u64 (x1)))) - (1 : Int))) > (16777215 : Int))) ( .leaf (.inl (5 : Int))) ( .br (decide (a0 <= (15 : Int))) ( .leaf (.inl (0 : Int))) ( .leaf (.inr (.b2 a1.Out (↑a1.Out.length : Int) (0 : Int) a1 a2))))))
 | .b2 a0 a1 a2 a3 a4 => .br (decide (a2 < a1)) ( .chk (decide (0 <= a2 /\ a2 < (↑a0.length : Int))) ( .bind 101 (a0[(Int.toNat a2)]?) (fun (x1 : Zl) => .br (x1.Dst == a4.Dst) ( .leaf (.inl (20 : Int))) ( .leaf (.inr (.b2 a0 a1 (w64 (a2 + (1 : Int))) a3 a4)))))) ( .br (decide ((↑a3.Out.length : Int) >= (8 : Int))) ( .leaf (.inl (8 : Int))) ( .leaf (.inl (0 : Int))))
noncomputable def Z5S (a0 : Zf) (a1 : Zt) : Option Int := ZT Z0f (.b0 a0 a1)
noncomputable def Zhl : Mod U := ⟨[42, 66], 51, fun x => Z5S x.1 x.2.1, by decide⟩
def Z7L : Lay := ⟨[2, 3, 5], [[.keep], [.keep], [.keep]], [.var [.s 101 10, .s 104 11], .var k4], ⟨[.one (.ptr 0), .one (.ptr 1), .one (.v 3 1 false)], [.var 42 2 (.agg [.v 42 2 true]), .var 66 8 (.agg [.v 66 8 true])]⟩⟩
def Z7N : Lay := ⟨[2, 3, 50, 51, 52], [[.keep], [.keep], [.s 101 10], [.keep], [.keep]], [.var [.s 101 10, .s 104 11], .var k4], ⟨[.one (.ptr 0), .one (.ptr 1), .one (.v 39 1 false), .one (.v 3 1 false), .one (.v 3 1 false)], [.var 42 2 (.agg [.v 42 2 true]), .var 66 8 (.agg [.v 66 8 true])]⟩⟩
def Zgm : Nat -> Option Lay
 | 4 => some Z7L
 | 11 => some Z7N
 | _ => none
noncomputable def Zfr : Z5t -> Z14 U
 | .b0 a0 a1 => Z26 Tryz.f146 [42, 66] (a0, a1, ())
 | .b1 a0 a1 a2 => spL Tryz.f146 [1, 1, 0, 0, 1, 1, 0] Z7L (((), ((), ((a0, ()), ()))), ((a1, ()), ((a2, ()), ())))
 | .b2 a0 a1 a2 a3 a4 => spL Tryz.f146 [1, 1, 1, 0, 1, 0, 0, 0] Z7N (((), ((), ((a0, ()), ((a1, ()), ((a2, ()), ()))))), ((a3, ()), ((a4, ()), ())))
theorem Zec : Z28 146 Tryz.f146 (mc Z6M (mc Z8J (mc Zhc msN))) hsN Zgm 51 Z0f Zfr
 | .b0 _ _ => by kernel_rfl
 | .b1 _ _ _ => by kernel_rfl
 | .b2 _ _ _ _ _ => by kernel_rfl
theorem Zfi : Z1p Tryz.prog B0 146 Zhl := okP Zec (fun x => .b0 x.1 x.2.1) (by kernel_rfl) Tryz.func146 (by kernel_rfl) (by kernel_rfl) (fun _ => rfl) (fun _ => rfl)
inductive Z4Q where
 | b0 (a0 : Zl) (a1 : Int)
noncomputable def Z4S : Z4Q -> Tr U (Zj ⊕ Z4Q)
 | .b0 a0 a1 => .chk (decide (0 <= a1 /\ a1 < (↑a0.Parts.length : Int))) ( .bind 27 (a0.Parts[(Int.toNat a1)]?) (fun (x1 : List Int) => .chk (([x1]).length == 1) ( .bind 27 (ZN ([x1])) (fun (x2 : List Int) => .leaf (.inl (⟨false, true, a0.App, (w64 ((Int.tmod a0.Zero (8192 : Int)))), a1, (w64 ((↑a0.Parts.length : Int) - (1 : Int))), (0 : Int), (0 : Int), false, x2⟩ : Zj))))))
noncomputable def Z4P (a0 : Zl) (a1 : Int) : Option Zj := ZT Z4S (.b0 a0 a1)
noncomputable def ZfE : Mod U := ⟨[101, 3], 106, fun x => Z4P x.1 x.2.1, by decide⟩
noncomputable def Zeg : Z4Q -> Z14 U
 | .b0 a0 a1 => Z26 Tryz.f148 [101, 3] (a0, a1, ())
theorem Zdj : Z28 148 Tryz.f148 (mc Z0l msN) hsN AN 106 Z4S Zeg
 | .b0 _ _ => by kernel_rfl
theorem Ze4 : Z1p Tryz.prog B0 148 ZfE := okP Zdj (fun x => .b0 x.1 x.2.1) (by kernel_rfl) Tryz.func148 (by kernel_rfl) (by kernel_rfl) (fun _ => rfl) (fun _ => rfl)
inductive Z6f where
 | b0 (a0 : List (List Int))
 | b1 (a0 a1 : List (List Int)) (a2 a3 : Int)
noncomputable def Z1N : Z6f -> Tr U ((List (List Int)) ⊕ Z6f)
 | .b0 a0 => .chk (decide (0 <= (↑a0.length : Int) /\ (↑a0.length : Int) <= (↑a0.length : Int) /\ Int.toNat (↑a0.length : Int) * 24 <= lim /\ (↑a0.length : Int) <= (↑maxLen : Int))) ( .chk ((List.replicate (Int.toNat (↑a0.length : Int)) ([] : List Int)).length == (List.replicate (Int.toNat (↑a0.length : Int)) ([] : List Int)).length) ( .chk ((a0.take (List.replicate (Int.toNat (↑a0.length : Int)) ([] : List Int)).length ++ (List.replicate (Int.toNat (↑a0.length : Int)) ([] : List Int)).drop a0.length).length == (List.replicate (Int.toNat (↑a0.length : Int)) ([] : List Int)).length) ( .leaf (.inr (.b1 (a0.take (List.replicate (Int.toNat (↑a0.length : Int)) ([] : List Int)).length ++ (List.replicate (Int.toNat (↑a0.length : Int)) ([] : List Int)).drop a0.length) a0 (↑a0.length : Int) (0 : Int))))))
 | .b1 a0 a1 a2 a3 => .br (decide (a3 < a2)) ( .chk (decide (0 <= a3 /\ a3 < (↑a1.length : Int))) ( .bind 27 (a1[(Int.toNat a3)]?) (fun (x1 : List Int) => .chk (([x1]).length == 1) ( .bind 27 (ZN ([x1])) (fun (x2 : List Int) => .chk (a0.length == a0.length) ( .chk (decide (0 <= a3 /\ a3 < (↑a0.length : Int))) ( .chk (a0.length == a0.length && decide (0 <= (Int.toNat a3))) ( .bind 27 (a0[(Int.toNat a3)]?) (fun (x3 : List Int) => .chk ((a0.set (Int.toNat a3) x2).length == a0.length) ( .leaf (.inr (.b1 (a0.set (Int.toNat a3) x2) a1 a2 (w64 (a3 + (1 : Int))))))))))))))) ( .chk (a0.length == a0.length) ( .leaf (.inl a0)))
noncomputable def Z4h (a0 : List (List Int)) : Option (List (List Int)) := ZT Z1N (.b0 a0)
noncomputable def Zi0 : Mod U := ⟨[73], 73, fun x => Z4h x.1, by decide⟩
def Z8F : Lay := ⟨[3, 12, 13, 14], [[.own 27 1], [.s 27 1], [.keep], [.keep]], [.row true], ⟨[.one (.own 27 0), .one (.v 73 1 false), .one (.v 3 1 false), .one (.v 3 1 false)], [.row 27 true]⟩⟩
def ZhA : Nat -> Option Lay
 | 4 => some Z8F
 | _ => none
noncomputable def ZgZ : Z6f -> Z14 U
 | .b0 a0 => Z26 Tryz.f229 [73] (a0, ())
 | .b1 a0 a1 a2 a3 => spL Tryz.f229 [1, 1, 1, 0, 1, 0, 0, 0] Z8F (((), ((a1, ()), ((a2, ()), ((a3, ()), ())))), (a0, ()))
theorem Zfg : Z28 229 Tryz.f229 (mc Z0l msN) hsN ZhA 73 Z1N ZgZ
 | .b0 _ => by kernel_rfl
 | .b1 _ _ _ _ => by kernel_rfl
theorem Zgc : Z1p Tryz.prog B0 229 Zi0 := okP Zfg (fun x => .b0 x.1) (by kernel_rfl) Tryz.func229 (by kernel_rfl) (by kernel_rfl) (fun _ => rfl) (fun _ => rfl)
end Go.Proofs.YtefmbgacbhifdaaGreat
namespace Go.Proofs.YtefmbgacbhifdaaGreat
open Go Go.Proofs.YtefmbgacbhifdaaGreat.Le
set_option maxRecDepth 100000
inductive Z6F where
 | b0 (a0 : Zf)
 | b1 (a0 a1 : Int) (a2 a3 : Zf)
 | b2 (a0 a1 : Int) (a2 a3 : Zf)
noncomputable def Z0d : Z6F -> Tr U (Z1k ⊕ Z6F)
 | .b0 a0 => .chk (decide (0 <= (↑a0.Out.length : Int) /\ (↑a0.Out.length : Int) <= (↑a0.Out.length : Int) /\ Int.toNat (↑a0.Out.length : Int) * 72 <= lim /\ (↑a0.Out.length : Int) <= (↑maxLen : Int))) ( .chk (decide (0 <= (↑a0.In.length : Int) /\ (↑a0.In.length : Int) <= (↑a0.In.length : Int) /\ Int.toNat (↑a0.In.length : Int) * 80 <= lim /\ (↑a0.In.length : Int) <= (↑maxLen : Int))) ( .chk ((List.replicate (Int.toNat (↑a0.Out.length : Int)) Z0T).length == (List.replicate (Int.toNat (↑a0.Out.length : Int)) Z0T).length) ( .chk ((List.replicate (Int.toNat (↑a0.In.length : Int)) Z2t).length == (List.replicate (Int.toNat (↑a0.In.length : Int)) Z2t).length) ( .chk ((a0.Out.take (List.replicate (Int.toNat (↑a0.Out.length : Int)) Z0T).length ++ (List.replicate (Int.toNat (↑a0.Out.length : Int)) Z0T).drop a0.Out.length).length == (List.replicate (Int.toNat (↑a0.Out.length : Int)) Z0T).length) ( .chk ((([] : List Zl).length == 0) && ((([] : List Zo).length == 0) && (((a0.Out.take (List.replicate (Int.toNat (↑a0.Out.length : Int)) Z0T).length ++ (List.replicate (Int.toNat (↑a0.Out.length : Int)) Z0T).drop a0.Out.length).length == (List.replicate (Int.toNat (↑a0.Out.length : Int)) Z0T).length) && ((a0.In.take (List.replicate (Int.toNat (↑a0.In.length : Int)) Z2t).length ++ (List.replicate (Int.toNat (↑a0.In.length : Int)) Z2t).drop a0.In.length).length == (List.replicate (Int.toNat (↑a0.In.length : Int)) Z2t).length)))) ( .leaf (.inr (.b1 (↑((List.replicate (Int.toNat (↑a0.Out.length : Int)) Z0T).length) : Int) (0 : Int) (⟨([] : List Zl), ([] : List Zo)⟩ : Zf) (⟨(a0.Out.take (List.replicate (Int.toNat (↑a0.Out.length : Int)) Z0T).length ++ (List.replicate (Int.toNat (↑a0.Out.length : Int)) Z0T).drop a0.Out.length), (a0.In.take (List.replicate (Int.toNat (↑a0.In.length : Int)) Z2t).length ++ (List.replicate (Int.toNat (↑a0.In.length : Int)) Z2t).drop a0.In.length)⟩ : Zf)))))))))
 | .b1 a0 a1 a2 a3 => .br (decide (a1 < a0)) ( .chk (a3.Out.length == a3.Out.length) ( .chk (decide (0 <= a1 /\ a1 < (↑a3.Out.length : Int))) ( .chk (a3.Out.length == a3.Out.length) ( .bind 101 (a3.Out[(Int.toNat a1)]?) (fun (x1 : Zl) => .bind 73 (Z4h x1.Parts) (fun (x2 : List (List Int)) => .chk (a3.Out.length == a3.Out.length) ( .chk (decide (0 <= a1 /\ a1 < (↑a3.Out.length : Int))) ( .chk (a3.Out.length == a3.Out.length && decide (0 <= (Int.toNat a1))) ( .bind 101 (a3.Out[(Int.toNat a1)]?) (fun (x3 : Zl) => .chk ((a2.Out.length == a2.Out.length) && ((a2.In.length == a2.In.length) && (((a3.Out.set (Int.toNat a1) ({ x3 with Parts := x2 } : Zl)).length == a3.Out.length) && (a3.In.length == a3.In.length)))) ( .leaf (.inr (.b1 a0 (w64 (a1 + (1 : Int))) a2 (⟨(a3.Out.set (Int.toNat a1) ({ x3 with Parts := x2 } : Zl)), a3.In⟩ : Zf)))))))))))))) ( .chk (a3.In.length == a3.In.length) ( .chk ((a2.Out.length == a2.Out.length) && ((a2.In.length == a2.In.length) && ((a3.Out.length == a3.Out.length) && (a3.In.length == a3.In.length)))) ( .leaf (.inr (.b2 (↑a3.In.length : Int) (0 : Int) a2 a3)))))
 | .b2 a0 a1 a2 a3 => .br (decide (a1 < a0)) ( .chk (a3.In.length == a3.In.length) ( .chk (decide (0 <= a1 /\ a1 < (↑a3.In.length : Int))) ( .chk (a3.In.length == a3.In.length) ( .bind 104 (a3.In[(Int.toNat a1)]?) (fun (x1 : Zo) => .bind 73 (Z4h x1.Parts) (fun (x2 : List (List Int)) => .chk (a3.In.length == a3.In.length) ( .chk (decide (0 <= a1 /\ a1 < (↑a3.In.length : Int))) ( .chk (a3.In.length == a3.In.length && decide (0 <= (Int.toNat a1))) ( .bind 104 (a3.In[(Int.toNat a1)]?) (fun (x3 : Zo) => .chk ((a2.Out.length == a2.Out.length) && ((a2.In.length == a2.In.length) && ((a3.Out.length == a3.Out.length) && ((a3.In.set (Int.toNat a1) ({ x3 with Parts := x2 } : Zo)).length == a3.In.length)))) ( .leaf (.inr (.b2 a0 (w64 (a1 + (1 : Int))) a2 (⟨a3.Out, (a3.In.set (Int.toNat a1) ({ x3 with Parts := x2 } : Zo))⟩ : Zf)))))))))))))) ( .chk ((a3.Out.length == a3.Out.length) && (a3.In.length == a3.In.length)) ( .leaf (.inl (⟨a3⟩ : Z1k))))
noncomputable def Z48 (a0 : Zf) : Option Z1k := ZT Z0d (.b0 a0)
def Z8E : Shape := ⟨[.agg [.v 42 2 true]], []⟩
noncomputable def Zaa : HMod U := ⟨[[.s 101 10, .s 104 11]], [], Z8E, ⟨[.agg [.own 101 0, .own 104 1]], [.row 101 true, .row 104 true]⟩, true, 1385, fun (y : Z1k) => (((), ()), (y.q0.Out, (y.q0.In, ()))), fun x => Z48 x.1.1.1, ⟨⟨⟨⟨by decide, fun _ => ⟨_, rfl, rfl⟩⟩, trivial⟩, trivial⟩, trivial⟩⟩
def Z8R : Lay := ⟨[2, 3, 27, 28], [[.keep], [.keep], [.keep], [.keep]], [.var [.own 101 10, .own 104 11], .var [.own 101 10, .own 104 11], .row true, .row true, .row true, .row true], ⟨[.one (.ptr 0), .one (.ptr 1), .one (.v 3 1 false), .one (.v 3 1 false)], [.var 42 2 (.agg [.own 101 2, .own 104 3]), .var 42 2 (.agg [.own 101 4, .own 104 5]), .row 101 true, .row 104 true, .row 101 true, .row 104 true]⟩⟩
def Z8p : Lay := ⟨[2, 3, 46, 47], [[.keep], [.keep], [.keep], [.keep]], [.var [.own 101 10, .own 104 11], .var [.own 101 10, .own 104 11], .row true, .row true, .row true, .row true], ⟨[.one (.ptr 0), .one (.ptr 1), .one (.v 3 1 false), .one (.v 3 1 false)], [.var 42 2 (.agg [.own 101 2, .own 104 3]), .var 42 2 (.agg [.own 101 4, .own 104 5]), .row 101 true, .row 104 true, .row 101 true, .row 104 true]⟩⟩
def ZhD : Nat -> Option Lay
 | 5 => some Z8R
 | 10 => some Z8p
 | _ => none
noncomputable def Zgd : Z6F -> Z14 U
 | .b0 a0 => ZjS Tryz.f147 Z8E (((a0, ()), ()), ())
 | .b1 a0 a1 a2 a3 => spL Tryz.f147 [1, 1, 1, 1, 0, 1, 0, 0, 0] Z8R (((), ((), ((a0, ()), ((a1, ()), ())))), ((), ((), (a2.Out, (a2.In, (a3.Out, (a3.In, ())))))))
 | .b2 a0 a1 a2 a3 => spL Tryz.f147 [1, 1, 1, 1, 1, 0, 1, 0, 0, 0] Z8p (((), ((), ((a0, ()), ((a1, ()), ())))), ((), ((), (a2.Out, (a2.In, (a3.Out, (a3.In, ())))))))
theorem Zfm : Zk6 147 Tryz.f147 (mc Zgc msN) hsN ZhD [[.own 101 10, .own 104 11]] [.row true, .row true] 0 Zaa Z0d Zgd
 | .b0 _ => by kernel_rfl
 | .b1 _ _ _ _ => by kernel_rfl
 | .b2 _ _ _ _ => by kernel_rfl
theorem Z9r : Z29 Tryz.prog B0 147 Zaa := okH Zfm (fun x => .b0 x.1.1.1) (fun x => by kernel_rfl) (by kernel_rfl) Tryz.func147 (by kernel_rfl) (by kernel_rfl) (fun x => by kernel_rfl) (fun x => by kernel_rfl)
inductive Z7A where
 | b0 (a0 : Zf) (a1 : Zt) (a2 : Int)
 | b1 (a0 : List Int) (a1 a2 : Zf) (a3 : Zl)
 | b2 (a0 : List Zj) (a1 a2 : Int) (a3 a4 : Zf) (a5 : Zl)
noncomputable def Z0k : Z7A -> Tr U ((Zf × (List Zj) × Int) ⊕ Z7A)
 | .b0 a0 a1 a2 => .bind 51 (Z5S a0 a1) (fun (x1 : Int) => .bind 1385 (Z48 a0) (fun (y2 : Z1k) => .br (x1 != (0 : Int)) ( .chk (y2.q0.Out.length == y2.q0.Out.length) ( .chk (y2.q0.In.length == y2.q0.In.length) ( .chk (([] : List Zj).length == 0) ( .leaf (.inl (y2.q0, ([] : List Zj), x1)))))) ( .br (decide ((↑a1.Bytes.length : Int) <= (15 : Int))) ( .chk (([a1.Bytes]).length == 1) ( .bind 27 (ZN ([a1.Bytes])) (fun (x3 : List Int) => .chk (y2.q0.Out.length == y2.q0.Out.length) ( .chk (y2.q0.In.length == y2.q0.In.length) ( .chk (([(⟨false, false, a1.App, (0 : Int), (0 : Int), (0 : Int), (0 : Int), (0 : Int), false, x3⟩ : Zj)]).length == 1) ( .leaf (.inl (y2.q0, [(⟨false, false, a1.App, (0 : Int), (0 : Int), (0 : Int), (0 : Int), (0 : Int), false, x3⟩ : Zj)], (0 : Int))))))))) ( .chk ((y2.q0.Out.length == y2.q0.Out.length) && ((y2.q0.In.length == y2.q0.In.length) && ((([] : List Zl).length == 0) && ((([] : List Zo).length == 0) && (([] : List (List Int)).length == 0))))) ( .leaf (.inr (.b1 a1.Bytes y2.q0 (⟨([] : List Zl), ([] : List Zo)⟩ : Zf) (⟨a1.Dst, a1.Src, a1.App, a1.Seq.Seq, a1.Seq.IV, ([] : List (List Int)), (0 : Int), (w64 (a2 + (20 : Int))), (1 : Int), a1.TTL⟩ : Zl))))))))
 | .b1 a0 a1 a2 a3 => .br (decide ((↑a0.length : Int) > (0 : Int))) ( .chk (decide (0 <= (if (↑a0.length : Int) < (12 : Int) then (↑a0.length : Int) else (12 : Int)) /\ (if (↑a0.length : Int) < (12 : Int) then (↑a0.length : Int) else (12 : Int)) <= (↑a0.length : Int))) ( .chk (([((a0.drop 0).take ((Int.toNat (if (↑a0.length : Int) < (12 : Int) then (↑a0.length : Int) else (12 : Int))) - 0))]).length == 1) ( .bind 27 (ZN ([((a0.drop 0).take ((Int.toNat (if (↑a0.length : Int) < (12 : Int) then (↑a0.length : Int) else (12 : Int))) - 0))])) (fun (x1 : List Int) => .chk (([x1]).length == 1) ( .chk (a3.Parts.length == a3.Parts.length) ( .chk (decide ((a3.Parts.length + ([x1]).length) * 24 <= lim) && decide (a3.Parts.length + ([x1]).length <= maxLen)) ( .chk (decide (0 <= (if (↑a0.length : Int) < (12 : Int) then (↑a0.length : Int) else (12 : Int)) /\ (if (↑a0.length : Int) < (12 : Int) then (↑a0.length : Int) else (12 : Int)) <= (↑a0.length : Int))) ( .chk ((a1.Out.length == a1.Out.length) && ((a1.In.length == a1.In.length) && ((a2.Out.length == a2.Out.length) && ((a2.In.length == a2.In.length) && ((a3.Parts ++ [x1]).length == (a3.Parts ++ [x1]).length))))) ( .leaf (.inr (.b1 ((a0.drop (Int.toNat (if (↑a0.length : Int) < (12 : Int) then (↑a0.length : Int) else (12 : Int)))).take (a0.length - (Int.toNat (if (↑a0.length : Int) < (12 : Int) then (↑a0.length : Int) else (12 : Int))))) a1 a2 ({ a3 with Parts := (a3.Parts ++ [x1]) } : Zl)))))))))))) ( .chk (a3.Parts.length == a3.Parts.length) ( .chk ((([] : List Zj).length == 0) && ((a1.Out.length == a1.Out.length) && ((a1.In.length == a1.In.length) && ((a2.Out.length == a2.Out.length) && ((a2.In.length == a2.In.length) && ((a3.Parts.length == a3.Parts.length) && (a3.Parts.length == a3.Parts.length))))))) ( .leaf (.inr (.b2 ([] : List Zj) (↑a3.Parts.length : Int) (0 : Int) a1 a2 a3)))))
 | .b2 a0 a1 a2 a3 a4 a5 => .br (decide (a2 < a1)) ( .chk (a5.Parts.length == a5.Parts.length) ( .bind 106 (Z4P a5 a2) (fun (x1 : Zj) => .chk (([x1]).length == 1) ( .chk (a0.length == a0.length) ( .chk (decide ((a0.length + ([x1]).length) * 72 <= lim) && decide (a0.length + ([x1]).length <= maxLen)) ( .chk (((a0 ++ [x1]).length == (a0 ++ [x1]).length) && ((a3.Out.length == a3.Out.length) && ((a3.In.length == a3.In.length) && ((a4.Out.length == a4.Out.length) && ((a4.In.length == a4.In.length) && ((a5.Parts.length == a5.Parts.length) && (a5.Parts.length == a5.Parts.length))))))) ( .leaf (.inr (.b2 (a0 ++ [x1]) a1 (w64 (a2 + (1 : Int))) a3 a4 a5))))))))) ( .chk (a5.Parts.length == a5.Parts.length) ( .chk (([a5]).length == 1) ( .chk (a3.Out.length == a3.Out.length) ( .chk (decide ((a3.Out.length + ([a5]).length) * 72 <= lim) && decide (a3.Out.length + ([a5]).length <= maxLen)) ( .chk ((a3.Out ++ [a5]).length == (a3.Out ++ [a5]).length) ( .chk (a3.In.length == a3.In.length) ( .chk (a0.length == a0.length) ( .leaf (.inl ((⟨(a3.Out ++ [a5]), a3.In⟩ : Zf), a0, (0 : Int)))))))))))
noncomputable def Z7y (a0 : Zf) (a1 : Zt) (a2 : Int) : Option (Zf × (List Zj) × Int) := ZT Z0k (.b0 a0 a1 a2)
noncomputable def Zjt : Mod U := ⟨[42, 66, 3], 113, fun x => Z7y x.1 x.2.1 x.2.2.1, by decide⟩
def Z9l : Lay := ⟨[3, 6, 10, 11], [[.keep], [.keep], [.keep], [.s 5 1]], [.var [.own 101 10, .own 104 11], .var [.own 101 10, .own 104 11], .var k14, .row true, .row true, .row true, .row true, .row true], ⟨[.one (.ptr 0), .one (.ptr 1), .one (.ptr 2), .one (.v 27 1 false)], [.var 42 2 (.agg [.own 101 3, .own 104 4]), .var 42 2 (.agg [.own 101 5, .own 104 6]), .var 101 10 (.agg [.v 22 1 false, .v 22 1 false, .v 4 1 false, .v 33 1 false, .v 33 1 false, .own 27 7, .v 33 1 false, .v 3 1 false, .v 3 1 false, .v 3 1 false]), .row 101 true, .row 104 true, .row 101 true, .row 104 true, .row 27 true]⟩⟩
def Z9f : Lay := ⟨[3, 6, 10, 12, 77, 78], [[.keep], [.keep], [.keep], [.own 106 10], [.keep], [.keep]], [.var [.own 101 10, .own 104 11], .var [.own 101 10, .own 104 11], .var k14, .row true, .row true, .row true, .row true, .row true, .row false], ⟨[.one (.ptr 0), .one (.ptr 1), .one (.ptr 2), .one (.own 106 3), .one (.v 3 1 false), .one (.v 3 1 false)], [.var 42 2 (.agg [.own 101 4, .own 104 5]), .var 42 2 (.agg [.own 101 6, .own 104 7]), .var 101 10 (.agg [.v 22 1 false, .v 22 1 false, .v 4 1 false, .v 33 1 false, .v 33 1 false, .own 27 8, .v 33 1 false, .v 3 1 false, .v 3 1 false, .v 3 1 false]), .row 106 true, .row 101 true, .row 104 true, .row 101 true, .row 104 true, .row 27 false]⟩⟩
def Zju : Nat -> Option Lay
 | 9 => some Z9l
 | 14 => some Z9f
 | _ => none
noncomputable def ZhT : Z7A -> Z14 U
 | .b0 a0 a1 a2 => Z26 Tryz.f66 [42, 66, 3] (a0, a1, a2, ())
 | .b1 a0 a1 a2 a3 => spL Tryz.f66 [1, 1, 1, 1, 1, 1, 0, 1, 0, 0, 0, 0] Z9l (((), ((), ((), ((a0, ()), ())))), ((), ((), ((a3.Dst, (a3.Src, (a3.App, (a3.Zero, (a3.IV, (a3.Zyl, (a3.Due, (a3.Z0S, (a3.TTL, ()))))))))), (a1.Out, (a1.In, (a2.Out, (a2.In, (a3.Parts, ())))))))))
 | .b2 a0 a1 a2 a3 a4 a5 => spL Tryz.f66 [1, 1, 1, 1, 1, 1, 1, 1, 0, 1, 0, 0, 0] Z9f (((), ((), ((), ((), ((a1, ()), ((a2, ()), ())))))), ((), ((), ((a5.Dst, (a5.Src, (a5.App, (a5.Zero, (a5.IV, (a5.Zyl, (a5.Due, (a5.Z0S, (a5.TTL, ()))))))))), (a0, (a3.Out, (a3.In, (a4.Out, (a4.In, (a5.Parts, ()))))))))))
theorem Zh6 : Z28 66 Tryz.f66 (mc Z0l (mc Zfi (mc Ze4 msN))) (hc [] Z9r hsN) Zju 113 Z0k ZhT
 | .b0 _ _ _ => by kernel_rfl
 | .b1 _ _ _ _ => by kernel_rfl
 | .b2 _ _ _ _ _ _ => by kernel_rfl
theorem Zhu : Z1p Tryz.prog B0 66 Zjt := okP Zh6 (fun x => .b0 x.1 x.2.1 x.2.2.1) (by kernel_rfl) Tryz.func66 (by kernel_rfl) (by kernel_rfl) (fun _ => rfl) (fun _ => rfl)
inductive Z4L where
 | b0 (a0 : Z0R)
noncomputable def Z4W : Z4L -> Tr U ((List Zn) ⊕ Z4L)
 | .b0 a0 => .br (a0.Z0j == (1 : Int)) ( .chk (([a0.Old, a0.New]).length == 2) ( .leaf (.inl ([a0.Old, a0.New])))) ( .br (a0.Z0j == (2 : Int)) ( .chk (([a0.New, a0.Old]).length == 2) ( .leaf (.inl ([a0.New, a0.Old])))) ( .chk (([a0.Old]).length == 1) ( .leaf (.inl ([a0.Old])))))
noncomputable def Z0A (a0 : Z0R) : Option (List Zn) := ZT Z4W (.b0 a0)
noncomputable def Zf6 : Mod U := ⟨[32], 135, fun x => Z0A x.1, by decide⟩
noncomputable def Ze0 : Z4L -> Z14 U
 | .b0 a0 => Z26 Tryz.f89 [32] (a0, ())
theorem ZcI : Z28 89 Tryz.f89 msN hsN AN 135 Z4W Ze0
 | .b0 _ => by kernel_rfl
theorem Z4s : Z1p Tryz.prog B0 89 Zf6 := okP ZcI (fun x => .b0 x.1) (by kernel_rfl) Tryz.func89 (by kernel_rfl) (by kernel_rfl) (fun _ => rfl) (fun _ => rfl)
inductive Z6C where
 | b0 (a0 : Z0R)
noncomputable def Z6h : Z6C -> Tr U (Zn ⊕ Z6C)
 | .b0 a0 => .bind 135 (Z0A a0) (fun (x1 : List Zn) => .chk (decide (0 <= (0 : Int) /\ (0 : Int) < (↑x1.length : Int))) ( .bind 30 (x1[(Int.toNat (0 : Int))]?) (fun (x2 : Zn) => .leaf (.inl x2))))
noncomputable def Z6t (a0 : Z0R) : Option Zn := ZT Z6h (.b0 a0)
noncomputable def ZhI : Mod U := ⟨[32], 30, fun x => Z6t x.1, by decide⟩
noncomputable def Zh4 : Z6C -> Z14 U
 | .b0 a0 => Z26 Tryz.f151 [32] (a0, ())
theorem ZfU : Z28 151 Tryz.f151 (mc Z4s msN) hsN AN 30 Z6h Zh4
 | .b0 _ => by kernel_rfl
theorem ZgT : Z1p Tryz.prog B0 151 ZhI := okP ZfU (fun x => .b0 x.1) (by kernel_rfl) Tryz.func151 (by kernel_rfl) (by kernel_rfl) (fun _ => rfl) (fun _ => rfl)
inductive Z3n where
 | b0 (a0 : Z0g)
noncomputable def Z3m : Z3n -> Tr U (Zn ⊕ Z3n)
 | .b0 a0 => .bind 30 (Z6t a0.Node.Keys) (fun (x1 : Zn) => .leaf (.inl x1))
noncomputable def Z3o (a0 : Z0g) : Option Zn := ZT Z3m (.b0 a0)
noncomputable def Zcm : Mod U := ⟨[97], 30, fun x => Z3o x.1, by decide⟩
noncomputable def Zbe : Z3n -> Z14 U
 | .b0 a0 => Z26 Tryz.f68 [97] (a0, ())
theorem Zax : Z28 68 Tryz.f68 (mc ZgT msN) hsN AN 30 Z3m Zbe
 | .b0 _ => by kernel_rfl
theorem ZaU : Z1p Tryz.prog B0 68 Zcm := okP Zax (fun x => .b0 x.1) (by kernel_rfl) Tryz.func68 (by kernel_rfl) (by kernel_rfl) (fun _ => rfl) (fun _ => rfl)
inductive Z6c where
 | b0 (a0 : Zj)
noncomputable def Z6d : Z6c -> Tr U (Bool ⊕ Z6c)
 | .b0 a0 => .br a0.Control ( .leaf (.inl (a0.Z4F == (0 : Int)))) ( .leaf (.inl false))
noncomputable def Z4b (a0 : Zj) : Option Bool := ZT Z6d (.b0 a0)
noncomputable def Zhz : Mod U := ⟨[106], 4, fun x => Z4b x.1, by decide⟩
noncomputable def Zgy : Z6c -> Z14 U
 | .b0 a0 => Z26 Tryz.f230 [106] (a0, ())
theorem ZfG : Z28 230 Tryz.f230 msN hsN AN 4 Z6d Zgy
 | .b0 _ => by kernel_rfl
theorem Z9b : Z1p Tryz.prog B0 230 Zhz := okP ZfG (fun x => .b0 x.1) (by kernel_rfl) Tryz.func230 (by kernel_rfl) (by kernel_rfl) (fun _ => rfl) (fun _ => rfl)
inductive Z7x where
 | b0 (a0 : Zj)
noncomputable def Z7w : Z7x -> Tr U (Bool ⊕ Z7x)
 | .b0 a0 => .bind 4 (Z4b a0) (fun (x1 : Bool) => .br x1 ( .br (!a0.Z1Z) ( .br (!a0.App) ( .br (a0.Index == (0 : Int)) ( .br (a0.Last == (0 : Int)) ( .leaf (.inl ((↑a0.Bytes.length : Int) == (0 : Int)))) ( .leaf (.inl false))) ( .leaf (.inl false))) ( .leaf (.inl false))) ( .leaf (.inl false))) ( .br a0.Control ( .br (!a0.Z1Z) ( .br (!a0.App) ( .br (a0.Zero == (0 : Int)) ( .br (a0.Index == (0 : Int)) ( .br (a0.Last == (0 : Int)) ( .br (a0.Block == (0 : Int)) ( .leaf (.inl (!a0.Z4))) ( .leaf (.inl false))) ( .leaf (.inl false))) ( .leaf (.inl false))) ( .leaf (.inl false))) ( .leaf (.inl false))) ( .leaf (.inl false))) ( .br a0.Z1Z ( .br (a0.Z4F == (0 : Int)) ( .br (a0.Block == (0 : Int)) ( .leaf (.inl (!a0.Z4))) ( .leaf (.inl false))) ( .leaf (.inl false))) ( .br (a0.Z4F == (0 : Int)) ( .br (a0.Zero == (0 : Int)) ( .br (a0.Index == (0 : Int)) ( .br (a0.Last == (0 : Int)) ( .br (a0.Block == (0 : Int)) ( .leaf (.inl (!a0.Z4))) ( .leaf (.inl false))) ( .leaf (.inl false))) ( .leaf (.inl false))) ( .leaf (.inl false))) ( .leaf (.inl false))))))
noncomputable def Z7F (a0 : Zj) : Option Bool := ZT Z7w (.b0 a0)
noncomputable def Zje : Mod U := ⟨[106], 4, fun x => Z7F x.1, by decide⟩
noncomputable def Zi6 : Z7x -> Z14 U
 | .b0 a0 => Z26 Tryz.f245 [106] (a0, ())
theorem Zg9 : Z28 245 Tryz.f245 (mc Z9b msN) hsN AN 4 Z7w Zi6
 | .b0 _ => by kernel_rfl
theorem Zhx : Z1p Tryz.prog B0 245 Zje := okP Zg9 (fun x => .b0 x.1) (by kernel_rfl) Tryz.func245 (by kernel_rfl) (by kernel_rfl) (fun _ => rfl) (fun _ => rfl)
inductive Z6B where
 | b0 (a0 : Zj)
 | b1 (a0 a1 : Int) (a2 : Zj)
 | b2 (a0 a1 : Int) (a2 : Zj)
 | b3 (a0 a1 : Int) (a2 : Zj)
noncomputable def Z0J : Z6B -> Tr U (Int ⊕ Z6B)
 | .b0 a0 => .br a0.Control ( .leaf (.inr (.b1 (0 : Int) (15 : Int) a0))) ( .br a0.Z1Z ( .br (decide (a0.Index < a0.Last)) ( .leaf (.inr (.b1 (12 : Int) (12 : Int) a0))) ( .leaf (.inr (.b1 (1 : Int) (12 : Int) a0)))) ( .leaf (.inr (.b1 (1 : Int) (15 : Int) a0))))
 | .b1 a0 a1 a2 => .br a2.Control ( .br (decide (a2.Z4F < (0 : Int))) ( .leaf (.inl (12 : Int))) ( .br (decide (a2.Z4F >= (9 : Int))) ( .leaf (.inl (12 : Int))) ( .leaf (.inr (.b2 a0 a1 a2))))) ( .leaf (.inr (.b2 a0 a1 a2)))
 | .b2 a0 a1 a2 => .bind 4 (Z7F a2) (fun (x1 : Bool) => .br (!x1) ( .leaf (.inl (1 : Int))) ( .br (decide (a2.Zero < (0 : Int))) ( .leaf (.inl (5 : Int))) ( .br (decide (a2.Zero >= (8192 : Int))) ( .leaf (.inl (5 : Int))) ( .br (decide (a2.Last < (0 : Int))) ( .leaf (.inl (5 : Int))) ( .br (decide (a2.Last >= (32 : Int))) ( .leaf (.inl (5 : Int))) ( .br (decide (a2.Index < (0 : Int))) ( .leaf (.inl (5 : Int))) ( .br (decide (a2.Index > a2.Last)) ( .leaf (.inl (5 : Int))) ( .leaf (.inr (.b3 a0 a1 a2))))))))))
 | .b3 a0 a1 a2 => .br (decide ((↑a2.Bytes.length : Int) < a0)) ( .leaf (.inl (1 : Int))) ( .br (decide ((↑a2.Bytes.length : Int) > a1)) ( .leaf (.inl (4 : Int))) ( .leaf (.inl (0 : Int))))
noncomputable def Z1O (a0 : Zj) : Option Int := ZT Z0J (.b0 a0)
noncomputable def ZhO : Mod U := ⟨[106], 51, fun x => Z1O x.1, by decide⟩
def Z8Z : Lay := ⟨[1, 3, 4], [[.keep], [.keep], [.keep]], [.var k0], ⟨[.one (.ptr 0), .one (.v 3 1 false), .one (.v 3 1 false)], [.var 106 10 (.agg [.v 106 10 true])]⟩⟩
def Z8T : Lay := ⟨[1, 3, 4], [[.keep], [.keep], [.keep]], [.var k0], ⟨[.one (.ptr 0), .one (.v 3 1 false), .one (.v 3 1 false)], [.var 106 10 (.agg [.v 106 10 true])]⟩⟩
def Z8G : Lay := ⟨[1, 3, 4], [[.keep], [.keep], [.keep]], [.var k0], ⟨[.one (.ptr 0), .one (.v 3 1 false), .one (.v 3 1 false)], [.var 106 10 (.agg [.v 106 10 true])]⟩⟩
def Zhr : Nat -> Option Lay
 | 8 => some Z8Z
 | 10 => some Z8T
 | 14 => some Z8G
 | _ => none
noncomputable def ZgD : Z6B -> Z14 U
 | .b0 a0 => Z26 Tryz.f172 [106] (a0, ())
 | .b1 a0 a1 a2 => spL Tryz.f172 [1, 1, 1, 0, 0, 0] Z8Z (((), ((a0, ()), ((a1, ()), ()))), ((a2, ()), ()))
 | .b2 a0 a1 a2 => spL Tryz.f172 [1, 1, 1, 0, 0, 1, 1, 0] Z8T (((), ((a0, ()), ((a1, ()), ()))), ((a2, ()), ()))
 | .b3 a0 a1 a2 => spL Tryz.f172 [1, 1, 1, 0, 0, 1, 1, 1, 1, 1, 1, 0] Z8G (((), ((a0, ()), ((a1, ()), ()))), ((a2, ()), ()))
theorem Zfu : Z28 172 Tryz.f172 (mc Zhx msN) hsN Zhr 51 Z0J ZgD
 | .b0 _ => by kernel_rfl
 | .b1 _ _ _ => by kernel_rfl
 | .b2 _ _ _ => by kernel_rfl
 | .b3 _ _ _ => by kernel_rfl
theorem Z5N : Z1p Tryz.prog B0 172 ZhO := okP Zfu (fun x => .b0 x.1) (by kernel_rfl) Tryz.func172 (by kernel_rfl) (by kernel_rfl) (fun _ => rfl) (fun _ => rfl)
inductive Z7u where
 | b0 (a0 : Bool) (a1 : Int)
noncomputable def ZbU : Z7u -> Tr U (Int ⊕ Z7u)
 | .b0 a0 a1 => .br a0 ( .leaf (.inl a1)) ( .leaf (.inl (0 : Int)))
noncomputable def Z3i (a0 : Bool) (a1 : Int) : Option Int := ZT ZbU (.b0 a0 a1)
noncomputable def Zjq : Mod U := ⟨[4, 23], 23, fun x => Z3i x.1 x.2.1, by decide⟩
noncomputable def ZhC : Z7u -> Z14 U
 | .b0 a0 a1 => Z26 Tryz.f231 [4, 23] (a0, a1, ())
theorem ZgG : Z28 231 Tryz.f231 msN hsN AN 23 ZbU ZhC
 | .b0 _ _ => by kernel_rfl
theorem Ziz : Z1p Tryz.prog B0 231 Zjq := okP ZgG (fun x => .b0 x.1 x.2.1) (by kernel_rfl) Tryz.func231 (by kernel_rfl) (by kernel_rfl) (fun _ => rfl) (fun _ => rfl)
inductive Z5y where
 | b0 (a0 : Zj)
 | b1 (a0 : List Zx) (a1 : Zj)
noncomputable def Z2r : Z5y -> Tr U (((List Int) × Int) ⊕ Z5y)
 | .b0 a0 => .bind 51 (Z1O a0) (fun (x1 : Int) => .br (x1 != (0 : Int)) ( .chk (([] : List Int).length == 0) ( .leaf (.inl (([] : List Int), x1)))) ( .bind 4 (Z4b a0) (fun (x2 : Bool) => .br x2 ( .bind 23 (Z3i a0.Z4 (8192 : Int)) (fun (x3 : Int) => .chk (([(⟨(1 : Int), (0 : Int)⟩ : Zx), (⟨(2 : Int), (IntKind.wrap .u64 ((IntKind.wrap .u64 (a0.Zero)) + x3))⟩ : Zx), (⟨(4 : Int), (IntKind.wrap .u64 (a0.Block))⟩ : Zx)]).length == 3) ( .leaf (.inr (.b1 ([(⟨(1 : Int), (0 : Int)⟩ : Zx), (⟨(2 : Int), (IntKind.wrap .u64 ((IntKind.wrap .u64 (a0.Zero)) + x3))⟩ : Zx), (⟨(4 : Int), (IntKind.wrap .u64 (a0.Block))⟩ : Zx)]) a0))))) ( .br a0.Control ( .chk (([(⟨(1 : Int), (IntKind.wrap .u64 (a0.Z4F))⟩ : Zx)]).length == 1) ( .leaf (.inr (.b1 ([(⟨(1 : Int), (IntKind.wrap .u64 (a0.Z4F))⟩ : Zx)]) a0)))) ( .br a0.Z1Z ( .bind 23 (Z3i a0.App (64 : Int)) (fun (x4 : Int) => .chk (([(⟨(1 : Int), (IntKind.wrap .u64 ((128 : Int) + x4))⟩ : Zx), (⟨(3 : Int), (IntKind.wrap .u64 ((w64 ((w64 (a0.Zero + (w64 (a0.Index * (8192 : Int))))) + (w64 ((w64 (a0.Last * (8192 : Int))) * (32 : Int)))))))⟩ : Zx)]).length == 2) ( .leaf (.inr (.b1 ([(⟨(1 : Int), (IntKind.wrap .u64 ((128 : Int) + x4))⟩ : Zx), (⟨(3 : Int), (IntKind.wrap .u64 ((w64 ((w64 (a0.Zero + (w64 (a0.Index * (8192 : Int))))) + (w64 ((w64 (a0.Last * (8192 : Int))) * (32 : Int)))))))⟩ : Zx)]) a0))))) ( .bind 23 (Z3i a0.App (64 : Int)) (fun (x5 : Int) => .chk (([(⟨(1 : Int), x5⟩ : Zx)]).length == 1) ( .leaf (.inr (.b1 ([(⟨(1 : Int), x5⟩ : Zx)]) a0))))))))))
 | .b1 a0 a1 => .chk (a0.length == a0.length) ( .bind 205 (Z2Y a0) (fun (x1 : (List Int) × Int) => .chk (([x1.1, a1.Bytes]).length == 2) ( .bind 27 (ZN ([x1.1, a1.Bytes])) (fun (x2 : List Int) => .leaf (.inl (x2, (0 : Int)))))))
noncomputable def Z5r (a0 : Zj) : Option ((List Int) × Int) := ZT Z2r (.b0 a0)
noncomputable def Zhf : Mod U := ⟨[106], 205, fun x => Z5r x.1, by decide⟩
def Z7M : Lay := ⟨[1, 5], [[.keep], [.own 287 2]], [.var k0, .row true], ⟨[.one (.ptr 0), .one (.own 287 1)], [.var 106 10 (.agg [.v 106 10 true]), .row 287 true]⟩⟩
def Zgn : Nat -> Option Lay
 | 12 => some Z7M
 | _ => none
noncomputable def Zfe : Z5y -> Z14 U
 | .b0 a0 => Z26 Tryz.f150 [106] (a0, ())
 | .b1 a0 a1 => spL Tryz.f150 [1, 1, 1, 1, 0] Z7M (((), ((), ())), ((a1, ()), (a0, ())))
theorem ZdX : Z28 150 Tryz.f150 (mc Z0l (mc Z5N (mc ZbH (mc Z9b (mc Ziz msN))))) hsN Zgn 205 Z2r Zfe
 | .b0 _ => by kernel_rfl
 | .b1 _ _ => by kernel_rfl
theorem ZfS : Z1p Tryz.prog B0 150 Zhf := okP ZdX (fun x => .b0 x.1) (by kernel_rfl) Tryz.func150 (by kernel_rfl) (by kernel_rfl) (fun _ => rfl) (fun _ => rfl)
inductive Z2D where
 | b0 (a0 a1 : ZB)
 | b1 (a0 : Int) (a1 a2 a3 : ZB)
noncomputable def ZBs (a0 : Int) (a1 a2 a3 : ZB) (v : Int) : Tr U (ZB ⊕ Z2D) :=
 .br (a0 == (0 : Int)) (.leaf (.inr (.b1 (w64 (a0 + (1 : Int))) ({ a1 with x0 := v } : ZB) a2 a3))) (
 .br (a0 == (1 : Int)) (.leaf (.inr (.b1 (w64 (a0 + (1 : Int))) ({ a1 with x1 := v } : ZB) a2 a3))) (
 .br (a0 == (2 : Int)) (.leaf (.inr (.b1 (w64 (a0 + (1 : Int))) ({ a1 with x2 := v } : ZB) a2 a3))) (
 .br (a0 == (3 : Int)) (.leaf (.inr (.b1 (w64 (a0 + (1 : Int))) ({ a1 with x3 := v } : ZB) a2 a3))) (
 .br (a0 == (4 : Int)) (.leaf (.inr (.b1 (w64 (a0 + (1 : Int))) ({ a1 with x4 := v } : ZB) a2 a3))) (
 .br (a0 == (5 : Int)) (.leaf (.inr (.b1 (w64 (a0 + (1 : Int))) ({ a1 with x5 := v } : ZB) a2 a3))) (
 .fail))))))
noncomputable def ZBo (a0 : Int) (a1 a2 a3 : ZB) (u : Int) : Tr U (ZB ⊕ Z2D) :=
 .br (a0 == (0 : Int)) (ZBs a0 a1 a2 a3 (bits .xor .u8 u a2.x0)) (
 .br (a0 == (1 : Int)) (ZBs a0 a1 a2 a3 (bits .xor .u8 u a2.x1)) (
 .br (a0 == (2 : Int)) (ZBs a0 a1 a2 a3 (bits .xor .u8 u a2.x2)) (
 .br (a0 == (3 : Int)) (ZBs a0 a1 a2 a3 (bits .xor .u8 u a2.x3)) (
 .br (a0 == (4 : Int)) (ZBs a0 a1 a2 a3 (bits .xor .u8 u a2.x4)) (
 .br (a0 == (5 : Int)) (ZBs a0 a1 a2 a3 (bits .xor .u8 u a2.x5)) (
 .fail))))))
noncomputable def Z0I : Z2D -> Tr U (ZB ⊕ Z2D)
 | .b0 a0 a1 => .leaf (.inr (.b1 (0 : Int) a0 a1 Z0V))
 | .b1 a0 a1 a2 a3 => .br (decide (a0 < (6 : Int))) ( .br (a0 == (0 : Int)) (ZBo a0 a1 a2 a3 a1.x0) ( .br (a0 == (1 : Int)) (ZBo a0 a1 a2 a3 a1.x1) ( .br (a0 == (2 : Int)) (ZBo a0 a1 a2 a3 a1.x2) ( .br (a0 == (3 : Int)) (ZBo a0 a1 a2 a3 a1.x3) ( .br (a0 == (4 : Int)) (ZBo a0 a1 a2 a3 a1.x4) ( .br (a0 == (5 : Int)) (ZBo a0 a1 a2 a3 a1.x5) ( .fail))))))) (.leaf (.inl a1))
noncomputable def Z49 (a0 a1 : ZB) : Option ZB := ZT Z0I (.b0 a0 a1)
noncomputable def ZhH : Mod U := ⟨[296, 296], 296, fun x => Z49 x.1 x.2.1, by decide⟩
def Z8A : Lay := ⟨[2, 3, 4, 6], [[.keep], [.keep], [.keep], [.keep]], [.var k9, .var k9, .var k9], ⟨[.one (.ptr 0), .one (.ptr 1), .one (.ptr 2), .one (.v 3 1 false)], [.var 296 6 (.agg [.v 296 6 true]), .var 296 6 (.agg [.v 296 6 true]), .var 296 6 (.agg [.v 296 6 true])]⟩⟩
def Zip : Nat -> Option Lay
 | 2 => some Z8A
 | _ => none
noncomputable def Zh1 : Z2D -> Z14 U
 | .b0 a0 a1 => Z26 Tryz.f237 [296, 296] (a0, a1, ())
 | .b1 a0 a1 a2 a3 => spL Tryz.f237 [1, 0, 1, 0, 0, 0] Z8A (((), ((), ((), ((a0, ()), ())))), ((a1, ()), ((a2, ()), ((a3, ()), ()))))
theorem Zfz : Z28 237 Tryz.f237 msN hsN Zip 296 Z0I Zh1
 | .b0 _ _ => by kernel_rfl
 | .b1 _ _ _ _ => by kernel_rfl
theorem Z9h : Z1p Tryz.prog B0 237 ZhH := okP Zfz (fun x => .b0 x.1 x.2.1) (by kernel_rfl) Tryz.func237 (by kernel_rfl) (by kernel_rfl) (fun _ => rfl) (fun _ => rfl)
inductive Zbb where
 | b0 (a0 a1 : List Int)
 | b1 (a0 a1 : List Int) (a2 : Int) (a3 : List Int) (a4 a5 : Int)
 | b2 (a0 a1 a2 : List Int) (a3 a4 : Int)
 | b3 (a0 a1 : List Int) (a2 a3 : Int) (a4 : List Int) (a5 a6 a7 a8 : Int)
noncomputable def Z0q : Zbb -> Tr U (((List Int) × (List Int) × Int) ⊕ Zbb)
 | .b0 a0 a1 => .leaf (.inr (.b1 a0 a1 (0 : Int) a1 (↑a1.length : Int) (0 : Int)))
 | .b1 a0 a1 a2 a3 a4 a5 => .br (decide (a5 < a4)) ( .chk (decide (0 <= a5 /\ a5 < (↑a3.length : Int))) ( .bind 3 (a3[(Int.toNat a5)]?) (fun (x1 : Int) => .bind 4 (Z6Q x1) (fun (x2 : Bool) => .br (!x2) ( .chk (([] : List Int).length == 0) ( .chk (([] : List Int).length == 0) ( .leaf (.inl (([] : List Int), ([] : List Int), (5 : Int)))))) ( .leaf (.inr (.b1 a0 a1 (w64 (a2 + x1)) a3 a4 (w64 (a5 + (1 : Int)))))))))) ( .br (decide ((↑a0.length : Int) < a2)) ( .chk (([] : List Int).length == 0) ( .chk (([] : List Int).length == 0) ( .leaf (.inl (([] : List Int), ([] : List Int), (3 : Int)))))) ( .chk (([] : List Int).length == 0) ( .leaf (.inr (.b2 a0 ([] : List Int) a1 (↑a1.length : Int) (0 : Int))))))
 | .b2 a0 a1 a2 a3 a4 => .br (decide (a4 < a3)) ( .chk (decide (0 <= a4 /\ a4 < (↑a2.length : Int))) ( .bind 3 (a2[(Int.toNat a4)]?) (fun (x1 : Int) => .chk (a1.length == a1.length) ( .leaf (.inr (.b3 a0 a1 x1 (0 : Int) a2 a3 a4 x1 (0 : Int))))))) ( .chk (([a0]).length == 1) ( .bind 27 (ZN ([a0])) (fun (x2 : List Int) => .chk (a1.length == a1.length) ( .leaf (.inl (a1, x2, (0 : Int)))))))
 | .b3 a0 a1 a2 a3 a4 a5 a6 a7 a8 => .br (decide (a8 < a7)) ( .chk (decide (0 <= a8 /\ a8 < (↑a0.length : Int))) ( .bind 5 (a0[(Int.toNat a8)]?) (fun (x1 : Int) => .chk (decide (0 <= (w64 ((8 : Int) * a8)))) ( .chk (a1.length == a1.length) ( .leaf (.inr (.b3 a0 a1 a2 (bits .or .u64 a3 (IntKind.wrap .u64 ((IntKind.wrap .u64 (x1)) * 2 ^ (min (Int.toNat (w64 ((8 : Int) * a8))) (IntKind.bits .u64))))) a4 a5 a6 a7 (w64 (a8 + (1 : Int)))))))))) ( .chk (([a3]).length == 1) ( .chk (a1.length == a1.length) ( .chk (decide ((a1.length + ([a3]).length) * 8 <= lim) && decide (a1.length + ([a3]).length <= maxLen)) ( .chk (decide (0 <= a2 /\ a2 <= (↑a0.length : Int))) ( .chk ((a1 ++ [a3]).length == (a1 ++ [a3]).length) ( .leaf (.inr (.b2 ((a0.drop (Int.toNat a2)).take (a0.length - (Int.toNat a2))) (a1 ++ [a3]) a4 a5 (w64 (a6 + (1 : Int)))))))))))
noncomputable def Z4i (a0 a1 : List Int) : Option ((List Int) × (List Int) × Int) := ZT Z0q (.b0 a0 a1)
noncomputable def ZoA : Mod U := ⟨[27, 293], 240, fun x => Z4i x.1 x.2.1, by decide⟩
def Zdr : Lay := ⟨[0, 1, 7, 15, 16, 17], [[.s 5 1], [.s 3 1], [.keep], [.s 3 1], [.keep], [.keep]], [], ⟨[.one (.v 27 1 false), .one (.v 293 1 false), .one (.v 3 1 false), .one (.v 293 1 false), .one (.v 3 1 false), .one (.v 3 1 false)], []⟩⟩
def ZcF : Lay := ⟨[0, 10, 32, 33, 34], [[.s 5 1], [.own 23 1], [.s 3 1], [.keep], [.keep]], [.row true], ⟨[.one (.v 27 1 false), .one (.own 23 0), .one (.v 293 1 false), .one (.v 3 1 false), .one (.v 3 1 false)], [.row 23 true]⟩⟩
def Zdw : Lay := ⟨[0, 10, 12, 13, 32, 33, 34, 38, 39], [[.s 5 1], [.own 23 1], [.keep], [.keep], [.s 3 1], [.keep], [.keep], [.keep], [.keep]], [.row true], ⟨[.one (.v 27 1 false), .one (.own 23 0), .one (.v 3 1 false), .one (.v 23 1 false), .one (.v 293 1 false), .one (.v 3 1 false), .one (.v 3 1 false), .one (.v 3 1 false), .one (.v 3 1 false)], [.row 23 true]⟩⟩
def Zoq : Nat -> Option Lay
 | 3 => some Zdr
 | 13 => some ZcF
 | 17 => some Zdw
 | _ => none
noncomputable def Zme : Zbb -> Z14 U
 | .b0 a0 a1 => Z26 Tryz.f157 [27, 293] (a0, a1, ())
 | .b1 a0 a1 a2 a3 a4 a5 => spL Tryz.f157 [1, 1, 0, 1, 0, 0, 0] Zdr (((a0, ()), ((a1, ()), ((a2, ()), ((a3, ()), ((a4, ()), ((a5, ()), ())))))), ())
 | .b2 a0 a1 a2 a3 a4 => spL Tryz.f157 [1, 1, 1, 1, 1, 0, 1, 0, 0, 0] ZcF (((a0, ()), ((), ((a2, ()), ((a3, ()), ((a4, ()), ()))))), (a1, ()))
 | .b3 a0 a1 a2 a3 a4 a5 a6 a7 a8 => spL Tryz.f157 [1, 1, 1, 1, 1, 0, 1, 0, 0, 1, 1, 0, 0, 1, 1, 0, 1, 0, 0, 0] Zdw (((a0, ()), ((), ((a2, ()), ((a3, ()), ((a4, ()), ((a5, ()), ((a6, ()), ((a7, ()), ((a8, ()), ()))))))))), (a1, ()))
theorem ZkP : Z28 157 Tryz.f157 (mc Z0l (mc Zde msN)) hsN Zoq 240 Z0q Zme
 | .b0 _ _ => by kernel_rfl
 | .b1 _ _ _ _ _ _ => by kernel_rfl
 | .b2 _ _ _ _ _ => by kernel_rfl
 | .b3 _ _ _ _ _ _ _ _ _ => by kernel_rfl
theorem Za0 : Z1p Tryz.prog B0 157 ZoA := okP ZkP (fun x => .b0 x.1 x.2.1) (by kernel_rfl) Tryz.func157 (by kernel_rfl) (by kernel_rfl) (fun _ => rfl) (fun _ => rfl)
inductive ZaZ where
 | b0 (a0 : Zn) (a1 : Int) (a2 : List Int)
 | b1 (a0 a1 : Int) (a2 a3 : ZB)
noncomputable def Z19 : ZaZ -> Tr U (ZB ⊕ ZaZ)
 | .b0 a0 a1 a2 => .chk (([(7 : Int)]).length == 1) ( .bind 240 (Z4i a2 ([(7 : Int)])) (fun (x1 : (List Int) × (List Int) × Int) => .chk (decide (0 <= (0 : Int) /\ (0 : Int) < (↑x1.1.length : Int))) ( .bind 23 (x1.1[(Int.toNat (0 : Int))]?) (fun (x2 : Int) => .chk (([(IntKind.wrap .u64 (a1)), x2]).length == 2) ( .bind 24 (Z30 a0.Hide (⟨#[104, 105, 100, 101]⟩ : ByteArray) ([(IntKind.wrap .u64 (a1)), x2])) (fun (x3 : Int) => .leaf (.inr (.b1 x3 (0 : Int) Z0V Z0V))))))))
 | .b1 a0 a1 a2 a3 => .br (decide (a1 < (6 : Int))) ( .chk (decide (0 <= (w64 ((8 : Int) * a1)))) ( .br (a1 == (0 : Int)) ( .leaf (.inr (.b1 a0 (w64 (a1 + (1 : Int))) a2 ({ a3 with x0 := (IntKind.wrap .u8 ((Int.fdiv a0 (2 ^ (min (Int.toNat (w64 ((8 : Int) * a1))) (IntKind.bits .u64)))))) } : ZB)))) ( .br (a1 == (1 : Int)) ( .leaf (.inr (.b1 a0 (w64 (a1 + (1 : Int))) a2 ({ a3 with x1 := (IntKind.wrap .u8 ((Int.fdiv a0 (2 ^ (min (Int.toNat (w64 ((8 : Int) * a1))) (IntKind.bits .u64)))))) } : ZB)))) ( .br (a1 == (2 : Int)) ( .leaf (.inr (.b1 a0 (w64 (a1 + (1 : Int))) a2 ({ a3 with x2 := (IntKind.wrap .u8 ((Int.fdiv a0 (2 ^ (min (Int.toNat (w64 ((8 : Int) * a1))) (IntKind.bits .u64)))))) } : ZB)))) ( .br (a1 == (3 : Int)) ( .leaf (.inr (.b1 a0 (w64 (a1 + (1 : Int))) a2 ({ a3 with x3 := (IntKind.wrap .u8 ((Int.fdiv a0 (2 ^ (min (Int.toNat (w64 ((8 : Int) * a1))) (IntKind.bits .u64)))))) } : ZB)))) ( .br (a1 == (4 : Int)) ( .leaf (.inr (.b1 a0 (w64 (a1 + (1 : Int))) a2 ({ a3 with x4 := (IntKind.wrap .u8 ((Int.fdiv a0 (2 ^ (min (Int.toNat (w64 ((8 : Int) * a1))) (IntKind.bits .u64)))))) } : ZB)))) ( .br (a1 == (5 : Int)) ( .leaf (.inr (.b1 a0 (w64 (a1 + (1 : Int))) a2 ({ a3 with x5 := (IntKind.wrap .u8 ((Int.fdiv a0 (2 ^ (min (Int.toNat (w64 ((8 : Int) * a1))) (IntKind.bits .u64)))))) } : ZB)))) ( .fail)))))))) ( .leaf (.inl a3))
noncomputable def Z80 (a0 : Zn) (a1 : Int) (a2 : List Int) : Option ZB := ZT Z19 (.b0 a0 a1 a2)
noncomputable def Zp7 : Mod U := ⟨[30, 33, 27], 296, fun x => Z80 x.1 x.2.1 x.2.2.1, by decide⟩
def ZdD : Lay := ⟨[6, 10, 11, 29], [[.keep], [.keep], [.keep], [.keep]], [.var k9, .var k9], ⟨[.one (.ptr 0), .one (.v 24 1 false), .one (.ptr 1), .one (.v 3 1 false)], [.var 296 6 (.agg [.v 296 6 true]), .var 296 6 (.agg [.v 296 6 true])]⟩⟩
def ZoC : Nat -> Option Lay
 | 5 => some ZdD
 | _ => none
noncomputable def Zm3 : ZaZ -> Z14 U
 | .b0 a0 a1 a2 => Z26 Tryz.f238 [30, 33, 27] (a0, a1, a2, ())
 | .b1 a0 a1 a2 a3 => spL Tryz.f238 [1, 1, 1, 1, 0, 1, 0, 0, 0] ZdD (((), ((a0, ()), ((), ((a1, ()), ())))), ((a2, ()), ((a3, ()), ())))
theorem Zlv : Z28 238 Tryz.f238 (mc Zba (mc Za0 msN)) hsN ZoC 296 Z19 Zm3
 | .b0 _ _ _ => by kernel_rfl
 | .b1 _ _ _ _ => by kernel_rfl
theorem ZeU : Z1p Tryz.prog B0 238 Zp7 := okP Zlv (fun x => .b0 x.1 x.2.1 x.2.2.1) (by kernel_rfl) Tryz.func238 (by kernel_rfl) (by kernel_rfl) (fun _ => rfl) (fun _ => rfl)
end Go.Proofs.YtefmbgacbhifdaaGreat
namespace Go.Proofs.YtefmbgacbhifdaaGreat
open Go Go.Proofs.YtefmbgacbhifdaaGreat.Le
set_option maxRecDepth 100000
inductive Za7 where
 | b0 (a0 : Zm)
 | b1 (a0 : Zm)
 | b2 (a0 : Zm)
noncomputable def Z2w : Za7 -> Tr U (Int ⊕ Za7)
 | .b0 a0 => .br (decide (a0.NID < (0 : Int))) ( .leaf (.inl (5 : Int))) ( .br (decide (a0.NID >= (128 : Int))) ( .leaf (.inl (5 : Int))) ( .br (decide (a0.TTL < (0 : Int))) ( .leaf (.inl (5 : Int))) ( .br (decide (a0.TTL > (127 : Int))) ( .leaf (.inl (5 : Int))) ( .br (decide (a0.Seq > (16777215 : Int))) ( .leaf (.inl (5 : Int))) ( .leaf (.inr (.b1 a0)))))))
 | .b1 a0 => .bind 4 (Z2p a0.Src) (fun (x1 : Bool) => .br (!x1) ( .leaf (.inl (1 : Int))) ( .bind 4 (Z2p a0.Dst) (fun (x2 : Bool) => .br (!x2) ( .bind 4 (Z4G a0.Dst) (fun (x3 : Bool) => .br (!x3) ( .leaf (.inl (1 : Int))) ( .br ((↑a0.Payload.length : Int) == (0 : Int)) ( .leaf (.inl (1 : Int))) ( .leaf (.inr (.b2 a0)))))) ( .br ((↑a0.Payload.length : Int) == (0 : Int)) ( .leaf (.inl (1 : Int))) ( .leaf (.inr (.b2 a0)))))))
 | .b2 a0 => .br (decide ((↑a0.Payload.length : Int) > (16 : Int))) ( .leaf (.inl (4 : Int))) ( .leaf (.inl (0 : Int)))
noncomputable def Z6S (a0 : Zm) : Option Int := ZT Z2w (.b0 a0)
noncomputable def Zmv : Mod U := ⟨[90], 51, fun x => Z6S x.1, by decide⟩
def ZbT : Lay := ⟨[1], [[.keep]], [.var k4], ⟨[.one (.ptr 0)], [.var 90 8 (.agg [.v 90 8 true])]⟩⟩
def ZbV : Lay := ⟨[1], [[.keep]], [.var k4], ⟨[.one (.ptr 0)], [.var 90 8 (.agg [.v 90 8 true])]⟩⟩
def ZmF : Nat -> Option Lay
 | 3 => some ZbT
 | 5 => some ZbV
 | _ => none
noncomputable def ZkR : Za7 -> Z14 U
 | .b0 a0 => Z26 Tryz.f240 [90] (a0, ())
 | .b1 a0 => spL Tryz.f240 [1, 0, 0, 1, 1, 0] ZbT (((), ()), ((a0, ()), ()))
 | .b2 a0 => spL Tryz.f240 [1, 0, 0, 1, 1, 1, 1, 0] ZbV (((), ()), ((a0, ()), ()))
theorem Zjk : Z28 240 Tryz.f240 (mc Z6M (mc Z8J msN)) hsN ZmF 51 Z2w ZkR
 | .b0 _ => by kernel_rfl
 | .b1 _ => by kernel_rfl
 | .b2 _ => by kernel_rfl
theorem ZcT : Z1p Tryz.prog B0 240 Zmv := okP Zjk (fun x => .b0 x.1) (by kernel_rfl) Tryz.func240 (by kernel_rfl) (by kernel_rfl) (fun _ => rfl) (fun _ => rfl)
inductive Z7v where
 | b0 (a0 : Zm)
noncomputable def Z7t : Z7v -> Tr U (Int ⊕ Z7v)
 | .b0 a0 => .br a0.Control ( .leaf (.inl (bits .or .u8 (IntKind.wrap .u8 (a0.TTL)) (128 : Int)))) ( .leaf (.inl (IntKind.wrap .u8 (a0.TTL))))
noncomputable def Z4I (a0 : Zm) : Option Int := ZT Z7t (.b0 a0)
noncomputable def Zjj : Mod U := ⟨[90], 5, fun x => Z4I x.1, by decide⟩
noncomputable def ZhN : Z7v -> Z14 U
 | .b0 a0 => Z26 Tryz.f243 [90] (a0, ())
theorem Zgr : Z28 243 Tryz.f243 msN hsN AN 5 Z7t ZhN
 | .b0 _ => by kernel_rfl
theorem ZaJ : Z1p Tryz.prog B0 243 Zjj := okP Zgr (fun x => .b0 x.1) (by kernel_rfl) Tryz.func243 (by kernel_rfl) (by kernel_rfl) (fun _ => rfl) (fun _ => rfl)
inductive Z8I where
 | b0 (a0 : Zm)
noncomputable def Z8j : Z8I -> Tr U (ZB ⊕ Z8I)
 | .b0 a0 => .bind 5 (Z4I a0) (fun (x1 : Int) => .leaf (.inl (⟨x1, (IntKind.wrap .u8 (a0.Seq)), (IntKind.wrap .u8 ((Int.fdiv a0.Seq (2 ^ (8 : Nat))))), (IntKind.wrap .u8 ((Int.fdiv a0.Seq (2 ^ (16 : Nat))))), (IntKind.wrap .u8 (a0.Src)), (IntKind.wrap .u8 ((Int.fdiv a0.Src (2 ^ (8 : Nat)))))⟩ : ZB)))
noncomputable def Z8s (a0 : Zm) : Option ZB := ZT Z8j (.b0 a0)
noncomputable def Zkc : Mod U := ⟨[90], 296, fun x => Z8s x.1, by decide⟩
noncomputable def Zjn : Z8I -> Z14 U
 | .b0 a0 => Z26 Tryz.f244 [90] (a0, ())
theorem Zi2 : Z28 244 Tryz.f244 (mc ZaJ msN) hsN AN 296 Z8j Zjn
 | .b0 _ => by kernel_rfl
theorem Zjv : Z1p Tryz.prog B0 244 Zkc := okP Zi2 (fun x => .b0 x.1) (by kernel_rfl) Tryz.func244 (by kernel_rfl) (by kernel_rfl) (fun _ => rfl) (fun _ => rfl)
inductive Z8D where
 | b0 (a0 : Zn) (a1 : Zm)
noncomputable def Z8g : Z8D -> Tr U (((List Int) × Int) ⊕ Z8D)
 | .b0 a0 a1 => .bind 51 (Z6S a1) (fun (x1 : Int) => .br (x1 != (0 : Int)) ( .chk (([] : List Int).length == 0) ( .leaf (.inl (([] : List Int), x1)))) ( .br (a1.NID != a0.NID) ( .chk (([] : List Int).length == 0) ( .leaf (.inl (([] : List Int), (17 : Int))))) ( .chk (([(IntKind.wrap .u8 (a1.Dst)), (IntKind.wrap .u8 ((Int.fdiv a1.Dst (2 ^ (8 : Nat)))))]).length == 2) ( .chk (([[(IntKind.wrap .u8 (a1.Dst)), (IntKind.wrap .u8 ((Int.fdiv a1.Dst (2 ^ (8 : Nat)))))], a1.Payload]).length == 2) ( .bind 27 (ZN ([[(IntKind.wrap .u8 (a1.Dst)), (IntKind.wrap .u8 ((Int.fdiv a1.Dst (2 ^ (8 : Nat)))))], a1.Payload])) (fun (x2 : List Int) => .bind 23 (Z2M (0 : Int) a1.Src a1.Seq a1.IV) (fun (x3 : Int) => .bind 5 (Z4I a1) (fun (x4 : Int) => .chk (([x4]).length == 1) ( .bind 27 (Zaf a0.Zfd x3 ([x4]) x2) (fun (x5 : List Int) => .bind 296 (Z8s a1) (fun (x6 : ZB) => .bind 296 (Z80 a0 a1.IV x5) (fun (x7 : ZB) => .bind 296 (Z49 x6 x7) (fun (x8 : ZB) => .chk (([(bits .or .u8 (IntKind.wrap .u8 (a1.NID)) (IntKind.wrap .u8 ((IntKind.wrap .u8 ((bits .and .u32 a1.IV (1 : Int)))) * 2 ^ (7 : Nat))))]).length == 1) ( .chk (([[(bits .or .u8 (IntKind.wrap .u8 (a1.NID)) (IntKind.wrap .u8 ((IntKind.wrap .u8 ((bits .and .u32 a1.IV (1 : Int)))) * 2 ^ (7 : Nat))))], (List.take 6 [x8.x0, x8.x1, x8.x2, x8.x3, x8.x4, x8.x5]), x5]).length == 3) ( .bind 27 (ZN ([[(bits .or .u8 (IntKind.wrap .u8 (a1.NID)) (IntKind.wrap .u8 ((IntKind.wrap .u8 ((bits .and .u32 a1.IV (1 : Int)))) * 2 ^ (7 : Nat))))], (List.take 6 [x8.x0, x8.x1, x8.x2, x8.x3, x8.x4, x8.x5]), x5])) (fun (x9 : List Int) => .leaf (.inl (x9, (0 : Int)))))))))))))))))))
noncomputable def Z5o (a0 : Zn) (a1 : Zm) : Option ((List Int) × Int) := ZT Z8g (.b0 a0 a1)
noncomputable def ZkA : Mod U := ⟨[30, 90], 205, fun x => Z5o x.1 x.2.1, by decide⟩
noncomputable def Zja : Z8D -> Z14 U
 | .b0 a0 a1 => Z26 Tryz.f169 [30, 90] (a0, a1, ())
theorem Ziw : Z28 169 Tryz.f169 (mc Z0l (mc ZkV (mc Z7G (mc Z9h (mc ZeU (mc ZcT (mc ZaJ (mc Zjv msN)))))))) hsN AN 205 Z8g Zja
 | .b0 _ _ => by kernel_rfl
theorem ZbO : Z1p Tryz.prog B0 169 ZkA := okP Ziw (fun x => .b0 x.1 x.2.1) (by kernel_rfl) Tryz.func169 (by kernel_rfl) (by kernel_rfl) (fun _ => rfl) (fun _ => rfl)
inductive Z4q where
 | b0 (a0 : Zn) (a1 : Zm) (a2 : Int) (a3 : Ze) (a4 : List Za)
noncomputable def Z4y : Z4q -> Tr U (Z0N ⊕ Z4q)
 | .b0 a0 a1 a2 a3 a4 => .bind 205 (Z5o a0 a1) (fun (x1 : (List Int) × Int) => .br (x1.2 != (0 : Int)) ( .chk ((a3.Node.Zb.length == a3.Node.Zb.length) && ((a3.Node.Cache.length == a3.Node.Cache.length) && ((a3.Node.Z9.length == a3.Node.Z9.length) && ((a3.Node.Z4.Zi.length == a3.Node.Z4.Zi.length) && ((a3.Node.Z4.Zk.length == a3.Node.Z4.Zk.length) && ((a3.Node.Low.Zk.length == a3.Node.Low.Zk.length) && ((a3.Node.Out.length == a3.Node.Out.length) && ((a3.Node.Z4.Zi.length == a3.Node.Z4.Zi.length) && ((a3.Node.Z4.Zk.length == a3.Node.Z4.Zk.length) && (a4.length == a4.length)))))))))) ( .leaf (.inl (⟨false, a3, a4⟩ : Z0N)))) ( .chk (([(⟨a2, x1.1, (0 : Int)⟩ : ZG)]).length == 1) ( .chk (a3.Node.Out.length == a3.Node.Out.length) ( .chk (decide ((a3.Node.Out.length + ([(⟨a2, x1.1, (0 : Int)⟩ : ZG)]).length) * 40 <= lim) && decide (a3.Node.Out.length + ([(⟨a2, x1.1, (0 : Int)⟩ : ZG)]).length <= maxLen)) ( .chk ((a3.Node.Zb.length == a3.Node.Zb.length) && ((a3.Node.Cache.length == a3.Node.Cache.length) && ((a3.Node.Z9.length == a3.Node.Z9.length) && ((a3.Node.Z4.Zi.length == a3.Node.Z4.Zi.length) && ((a3.Node.Z4.Zk.length == a3.Node.Z4.Zk.length) && ((a3.Node.Low.Zk.length == a3.Node.Low.Zk.length) && (((a3.Node.Out ++ [(⟨a2, x1.1, (0 : Int)⟩ : ZG)]).length == (a3.Node.Out ++ [(⟨a2, x1.1, (0 : Int)⟩ : ZG)]).length) && ((a3.Node.Z4.Zi.length == a3.Node.Z4.Zi.length) && ((a3.Node.Z4.Zk.length == a3.Node.Z4.Zk.length) && (a4.length == a4.length)))))))))) ( .leaf (.inl (⟨true, (⟨({ a3.Node with Out := (a3.Node.Out ++ [(⟨a2, x1.1, (0 : Int)⟩ : ZG)]) } : Zg), a3.Z0M⟩ : Ze), a4⟩ : Z0N))))))))
noncomputable def Z4t (a0 : Zn) (a1 : Zm) (a2 : Int) (a3 : Ze) (a4 : List Za) : Option Z0N := ZT Z4y (.b0 a0 a1 a2 a3 a4)
def Z66 : Shape := ⟨[.one (.ptr 0), .agg [.v 30 5 true], .agg [.v 90 8 true], .one (.v 3 1 false)], [.var 144 48 (.agg [.v 22 1 false, .v 24 1 false, .v 24 1 false, .v 32 11 true, .v 35 3 true, .v 33 1 false, .v 4 1 false, .v 4 1 false, .own 22 1, .own 64 2, .own 116 3, .v 42 2 true, .v 22 1 false, .own 108 4, .own 22 5, .v 3 1 false, .v 4 1 false, .v 3 1 false, .v 3 1 false, .v 3 1 false, .v 3 1 false, .v 22 1 false, .v 3 1 false, .v 3 1 false, .v 3 1 false, .v 3 1 false, .own 22 6, .v 3 1 false, .v 4 1 false, .v 3 1 false, .own 62 7, .v 33 1 false, .v 4 1 false, .v 3 1 false, .fn 61 [] [8]]), .row 22 true, .row 64 true, .row 116 true, .row 108 false, .row 22 false, .row 22 true, .row 62 true, .var 58 1 (.one (.own 68 9)), .row 68 true]⟩
noncomputable def Z7P : HMod U := ⟨[[.keep], k10, k4, [.keep]], [.var k1, .row true, .row true, .row true, .row false, .row false, .row true, .row true, .var [.own 68 11], .row true], Z66, ⟨[.one (.v 4 1 false)], [.var 144 48 (.agg [.v 22 1 false, .v 24 1 false, .v 24 1 false, .v 32 11 true, .v 35 3 true, .v 33 1 false, .v 4 1 false, .v 4 1 false, .own 22 1, .own 64 2, .own 116 3, .v 42 2 true, .v 22 1 false, .own 108 4, .own 22 5, .v 3 1 false, .v 4 1 false, .v 3 1 false, .v 3 1 false, .v 3 1 false, .v 3 1 false, .v 22 1 false, .v 3 1 false, .v 3 1 false, .v 3 1 false, .v 3 1 false, .own 22 6, .v 3 1 false, .v 4 1 false, .v 3 1 false, .own 62 7, .v 33 1 false, .v 4 1 false, .v 3 1 false, .fn 61 [] [8]]), .row 22 true, .row 64 true, .row 116 true, .row 108 false, .row 22 false, .row 22 true, .row 62 true, .var 58 1 (.one (.own 68 9)), .row 68 true]⟩, true, 1383, fun (y : Z0N) => (((y.q0, ()), ()), ((y.q1.Node.Address, (y.q1.Node.Device, (y.q1.Node.App, (y.q1.Node.Keys, (y.q1.Node.IV, (y.q1.Node.Seq, (y.q1.Node.Z06, (y.q1.Node.Zw, (y.q1.Node.Z5, (y.q1.Node.Z4.Low, (y.q1.Node.Z4.Bit, (y.q1.Node.Z4.Sent, (y.q1.Node.Z4.Z04, (y.q1.Node.Z4.Counter, (y.q1.Node.Z4.Dropped, (y.q1.Node.Low.Z0j, (y.q1.Node.Low.Z4, (y.q1.Node.Low.Bit, (y.q1.Node.Low.Counter, (y.q1.Node.Low.Due, (y.q1.Node.Low.Z0S, (y.q1.Node.Low.Told, (y.q1.Node.Low.More, (y.q1.Node.Low.Last, (y.q1.Node.ZP, (y.q1.Node.Up, (y.q1.Z0M, ()))))))))))))))))))))))))))), (y.q1.Node.Zb, (y.q1.Node.Cache, (y.q1.Node.Z9, (y.q1.Node.Z4.Zi, (y.q1.Node.Z4.Zk, (y.q1.Node.Low.Zk, (y.q1.Node.Out, ((), (y.q2, ()))))))))))), fun x => Z4t x.1.2.1.1 x.1.2.2.1.1 x.1.2.2.2.1.1 (⟨(⟨x.2.1.1, x.2.1.2.1, x.2.1.2.2.1, x.2.1.2.2.2.1, x.2.1.2.2.2.2.1, x.2.1.2.2.2.2.2.1, x.2.1.2.2.2.2.2.2.1, x.2.1.2.2.2.2.2.2.2.1, x.2.2.1, x.2.2.2.1, x.2.2.2.2.1, x.2.1.2.2.2.2.2.2.2.2.1, (⟨x.2.1.2.2.2.2.2.2.2.2.2.1, x.2.2.2.2.2.1, x.2.2.2.2.2.2.1, x.2.1.2.2.2.2.2.2.2.2.2.2.1, x.2.1.2.2.2.2.2.2.2.2.2.2.2.1, x.2.1.2.2.2.2.2.2.2.2.2.2.2.2.1, x.2.1.2.2.2.2.2.2.2.2.2.2.2.2.2.1, x.2.1.2.2.2.2.2.2.2.2.2.2.2.2.2.2.1⟩ : ZC), (⟨x.2.1.2.2.2.2.2.2.2.2.2.2.2.2.2.2.2.1, x.2.1.2.2.2.2.2.2.2.2.2.2.2.2.2.2.2.2.1, x.2.1.2.2.2.2.2.2.2.2.2.2.2.2.2.2.2.2.2.1, x.2.1.2.2.2.2.2.2.2.2.2.2.2.2.2.2.2.2.2.2.1, x.2.1.2.2.2.2.2.2.2.2.2.2.2.2.2.2.2.2.2.2.2.1, x.2.1.2.2.2.2.2.2.2.2.2.2.2.2.2.2.2.2.2.2.2.2.1, x.2.2.2.2.2.2.2.1, x.2.1.2.2.2.2.2.2.2.2.2.2.2.2.2.2.2.2.2.2.2.2.2.1, x.2.1.2.2.2.2.2.2.2.2.2.2.2.2.2.2.2.2.2.2.2.2.2.2.1, x.2.1.2.2.2.2.2.2.2.2.2.2.2.2.2.2.2.2.2.2.2.2.2.2.2.1⟩ : ZA), x.2.2.2.2.2.2.2.2.1, x.2.1.2.2.2.2.2.2.2.2.2.2.2.2.2.2.2.2.2.2.2.2.2.2.2.2.1, x.2.1.2.2.2.2.2.2.2.2.2.2.2.2.2.2.2.2.2.2.2.2.2.2.2.2.2.1⟩ : Zg), x.2.1.2.2.2.2.2.2.2.2.2.2.2.2.2.2.2.2.2.2.2.2.2.2.2.2.2.2.1⟩ : Ze) x.2.2.2.2.2.2.2.2.2.2.1, ⟨⟨trivial, ⟨⟨⟨by decide, fun _ => ⟨_, rfl, rfl⟩⟩, trivial⟩, ⟨⟨⟨by decide, fun _ => ⟨_, rfl, rfl⟩⟩, trivial⟩, ⟨⟨by decide, fun _ => rfl⟩, trivial⟩⟩⟩⟩, ⟨⟨⟨by decide, fun _ => rfl⟩, ⟨⟨by decide, fun _ => rfl⟩, ⟨⟨by decide, fun _ => rfl⟩, ⟨⟨by decide, fun _ => ⟨_, rfl, rfl⟩⟩, ⟨⟨by decide, fun _ => ⟨_, rfl, rfl⟩⟩, ⟨⟨by decide, fun _ => rfl⟩, ⟨⟨by decide, fun _ => rfl⟩, ⟨⟨by decide, fun _ => rfl⟩, ⟨trivial, ⟨trivial, ⟨trivial, ⟨⟨by decide, fun _ => ⟨_, rfl, rfl⟩⟩, ⟨⟨by decide, fun _ => rfl⟩, ⟨trivial, ⟨trivial, ⟨⟨by decide, fun _ => rfl⟩, ⟨⟨by decide, fun _ => rfl⟩, ⟨⟨by decide, fun _ => rfl⟩, ⟨⟨by decide, fun _ => rfl⟩, ⟨⟨by decide, fun _ => rfl⟩, ⟨⟨by decide, fun _ => rfl⟩, ⟨⟨by decide, fun _ => rfl⟩, ⟨⟨by decide, fun _ => rfl⟩, ⟨⟨by decide, fun _ => rfl⟩, ⟨⟨by decide, fun _ => rfl⟩, ⟨⟨by decide, fun _ => rfl⟩, ⟨trivial, ⟨⟨by decide, fun _ => rfl⟩, ⟨⟨by decide, fun _ => rfl⟩, ⟨⟨by decide, fun _ => rfl⟩, ⟨trivial, ⟨⟨by decide, fun _ => rfl⟩, ⟨⟨by decide, fun _ => rfl⟩, ⟨⟨by decide, fun _ => rfl⟩, ⟨trivial, trivial⟩⟩⟩⟩⟩⟩⟩⟩⟩⟩⟩⟩⟩⟩⟩⟩⟩⟩⟩⟩⟩⟩⟩⟩⟩⟩⟩⟩⟩⟩⟩⟩⟩⟩⟩, ⟨by decide, ⟨by decide, ⟨by decide, ⟨by decide, ⟨by decide, ⟨by decide, ⟨by decide, ⟨trivial, ⟨by decide, trivial⟩⟩⟩⟩⟩⟩⟩⟩⟩⟩⟩⟩
noncomputable def Zcw : Z4q -> Z14 U
 | .b0 a0 a1 a2 a3 a4 => ZjS Tryz.f96 Z66 (((), ((a0, ()), ((a1, ()), ((a2, ()), ())))), ((a3.Node.Address, (a3.Node.Device, (a3.Node.App, (a3.Node.Keys, (a3.Node.IV, (a3.Node.Seq, (a3.Node.Z06, (a3.Node.Zw, (a3.Node.Z5, (a3.Node.Z4.Low, (a3.Node.Z4.Bit, (a3.Node.Z4.Sent, (a3.Node.Z4.Z04, (a3.Node.Z4.Counter, (a3.Node.Z4.Dropped, (a3.Node.Low.Z0j, (a3.Node.Low.Z4, (a3.Node.Low.Bit, (a3.Node.Low.Counter, (a3.Node.Low.Due, (a3.Node.Low.Z0S, (a3.Node.Low.Told, (a3.Node.Low.More, (a3.Node.Low.Last, (a3.Node.ZP, (a3.Node.Up, (a3.Z0M, ()))))))))))))))))))))))))))), (a3.Node.Zb, (a3.Node.Cache, (a3.Node.Z9, (a3.Node.Z4.Zi, (a3.Node.Z4.Zk, (a3.Node.Low.Zk, (a3.Node.Out, ((), (a4, ())))))))))))
theorem Zcl : Zk6 96 Tryz.f96 (mc ZbO msN) hsN AN [[.keep]] [.var k1, .row true, .row true, .row true, .row false, .row false, .row true, .row true, .var [.own 68 11], .row true] 10 Z7P Z4y Zcw
 | .b0 _ _ _ _ _ => by kernel_rfl
theorem ZcS : Z29 Tryz.prog B0 96 Z7P := okH Zcl (fun x => .b0 x.1.2.1.1 x.1.2.2.1.1 x.1.2.2.2.1.1 (⟨(⟨x.2.1.1, x.2.1.2.1, x.2.1.2.2.1, x.2.1.2.2.2.1, x.2.1.2.2.2.2.1, x.2.1.2.2.2.2.2.1, x.2.1.2.2.2.2.2.2.1, x.2.1.2.2.2.2.2.2.2.1, x.2.2.1, x.2.2.2.1, x.2.2.2.2.1, x.2.1.2.2.2.2.2.2.2.2.1, (⟨x.2.1.2.2.2.2.2.2.2.2.2.1, x.2.2.2.2.2.1, x.2.2.2.2.2.2.1, x.2.1.2.2.2.2.2.2.2.2.2.2.1, x.2.1.2.2.2.2.2.2.2.2.2.2.2.1, x.2.1.2.2.2.2.2.2.2.2.2.2.2.2.1, x.2.1.2.2.2.2.2.2.2.2.2.2.2.2.2.1, x.2.1.2.2.2.2.2.2.2.2.2.2.2.2.2.2.1⟩ : ZC), (⟨x.2.1.2.2.2.2.2.2.2.2.2.2.2.2.2.2.2.1, x.2.1.2.2.2.2.2.2.2.2.2.2.2.2.2.2.2.2.1, x.2.1.2.2.2.2.2.2.2.2.2.2.2.2.2.2.2.2.2.1, x.2.1.2.2.2.2.2.2.2.2.2.2.2.2.2.2.2.2.2.2.1, x.2.1.2.2.2.2.2.2.2.2.2.2.2.2.2.2.2.2.2.2.2.1, x.2.1.2.2.2.2.2.2.2.2.2.2.2.2.2.2.2.2.2.2.2.2.1, x.2.2.2.2.2.2.2.1, x.2.1.2.2.2.2.2.2.2.2.2.2.2.2.2.2.2.2.2.2.2.2.2.1, x.2.1.2.2.2.2.2.2.2.2.2.2.2.2.2.2.2.2.2.2.2.2.2.2.1, x.2.1.2.2.2.2.2.2.2.2.2.2.2.2.2.2.2.2.2.2.2.2.2.2.2.1⟩ : ZA), x.2.2.2.2.2.2.2.2.1, x.2.1.2.2.2.2.2.2.2.2.2.2.2.2.2.2.2.2.2.2.2.2.2.2.2.2.1, x.2.1.2.2.2.2.2.2.2.2.2.2.2.2.2.2.2.2.2.2.2.2.2.2.2.2.2.1⟩ : Zg), x.2.1.2.2.2.2.2.2.2.2.2.2.2.2.2.2.2.2.2.2.2.2.2.2.2.2.2.2.1⟩ : Ze) x.2.2.2.2.2.2.2.2.2.2.1) (fun x => by kernel_rfl) (by kernel_rfl) Tryz.func96 (by kernel_rfl) (by kernel_rfl) (fun x => by kernel_rfl) (fun x => by kernel_rfl)
theorem Zb9 : Z9S Tryz.prog 78 1 1 5 := Z2n Zem (t := 27) (tb := 4) (e := 5) Tryz.func78 (by kernel_rfl) (by kernel_rfl) (by kernel_rfl) (by kernel_rfl) (by kernel_rfl) (by kernel_rfl) (by kernel_rfl) (by decide)
noncomputable def Z10 (a0 : List Int) : Option Z0Z := if a0.length * 1 <= lim /\ a0.length <= maxLen then some ⟨a0⟩ else none
def ZcK : Shape := ⟨[.one (.v 27 1 false)], []⟩
def Z3p : Shape := ⟨[.one (.own 5 0)], [.row 5 true]⟩
noncomputable def Z31 : HMod U := { fa := [[.s 5 1]], fb := [], sin := ZcK, ZtF := Z3p, one := true, ky := 1374, toX := fun (y : Z0Z) => (((), ()), (y.q0, ())), fn := fun x => Z10 x.1.1.1, ok := ⟨⟨⟨by decide, fun _ => rfl⟩, trivial⟩, trivial⟩ }
theorem Z4z : Z29 Tryz.prog B0 78 Z31 := Z7f Zb9 fun x y hx => by
 simp only [Z31, Z10] at hx
 split at hx
 ·rename_i h
  cases hx
  exact ⟨_, rfl, rfl, by simp [Z31, HMod.out, Z3p, Shape.enc, Z81, Zlf, Z7j, Z8q, ZhK, toV], by simp [Z31, HMod.out, Z3p, Shape.enc, Z81, Zlf, Z7j, Z8q, ZhK, toH, Z0F, ZK], by simpa using h.1, by simpa using h.2⟩
 ·cases hx
inductive ZbK where
 | b0 (a0 : ZJ)
noncomputable def Zbc : ZbK -> Tr U (ZJ ⊕ ZbK)
 | .b0 a0 => .bind 1374 (Z10 a0.PDU.Payload) (fun (y1 : Z0Z) => .bind 1374 (Z10 a0.Lower.Bytes) (fun (y2 : Z0Z) => .chk (y1.q0.length == y1.q0.length) ( .chk (y2.q0.length == y2.q0.length) ( .leaf (.inl (⟨({ a0.PDU with Payload := y1.q0 } : Zm), ({ a0.Lower with Bytes := y2.q0 } : Zj)⟩ : ZJ))))))
noncomputable def Z5W (a0 : ZJ) : Option ZJ := ZT Zbc (.b0 a0)
noncomputable def Zoz : Mod U := ⟨[108], 108, fun x => Z5W x.1, by decide⟩
noncomputable def ZmT : ZbK -> Z14 U
 | .b0 a0 => Z26 Tryz.f76 [108] (a0, ())
theorem ZkX : Z28 76 Tryz.f76 msN (hc [] Z4z hsN) AN 108 Zbc ZmT
 | .b0 _ => by kernel_rfl
theorem Z9C : Z1p Tryz.prog B0 76 Zoz := okP ZkX (fun x => .b0 x.1) (by kernel_rfl) Tryz.func76 (by kernel_rfl) (by kernel_rfl) (fun _ => rfl) (fun _ => rfl)
inductive Z3O where
 | b0 (a0 : List Int) (a1 : Int)
 | b1 (a0 : List Int) (a1 a2 a3 : Int)
noncomputable def Z6W : Z3O -> Tr U (Int ⊕ Z3O)
 | .b0 a0 a1 => .leaf (.inr (.b1 a0 a1 (↑a0.length : Int) (0 : Int)))
 | .b1 a0 a1 a2 a3 => .br (decide (a3 < a2)) ( .chk (decide (0 <= a3 /\ a3 < (↑a0.length : Int))) ( .bind 22 (a0[(Int.toNat a3)]?) (fun (x1 : Int) => .br (a1 == x1) ( .leaf (.inl a3)) ( .leaf (.inr (.b1 a0 a1 a2 (w64 (a3 + (1 : Int))))))))) ( .leaf (.inl (-1 : Int)))
noncomputable def Z7l (a0 : List Int) (a1 : Int) : Option Int := ZT Z6W (.b0 a0 a1)
noncomputable def Zdh : Mod U := ⟨[36, 22], 3, fun x => Z7l x.1 x.2.1, by decide⟩
def Z5K : Lay := ⟨[0, 1, 7, 8], [[.s 22 1], [.keep], [.keep], [.keep]], [], ⟨[.one (.v 36 1 false), .one (.v 22 1 false), .one (.v 3 1 false), .one (.v 3 1 false)], []⟩⟩
def Zdm : Nat -> Option Lay
 | 2 => some Z5K
 | _ => none
noncomputable def Zce : Z3O -> Z14 U
 | .b0 a0 a1 => Z26 Tryz.f252 [36, 22] (a0, a1, ())
 | .b1 a0 a1 a2 a3 => spL Tryz.f252 [1, 0, 1, 0, 0, 0] Z5K (((a0, ()), ((a1, ()), ((a2, ()), ((a3, ()), ())))), ())
theorem ZbG : Z28 252 Tryz.f252 msN hsN Zdm 3 Z6W Zce
 | .b0 _ _ => by kernel_rfl
 | .b1 _ _ _ _ => by kernel_rfl
theorem Zcc : Z1p Tryz.prog B0 252 Zdh := okP ZbG (fun x => .b0 x.1 x.2.1) (by kernel_rfl) Tryz.func252 (by kernel_rfl) (by kernel_rfl) (fun _ => rfl) (fun _ => rfl)
inductive Z2R where
 | b0 (a0 : List Int) (a1 : Int)
noncomputable def Z51 : Z2R -> Tr U (Bool ⊕ Z2R)
 | .b0 a0 a1 => .bind 3 (Z7l a0 a1) (fun (x1 : Int) => .leaf (.inl (decide (x1 >= (0 : Int)))))
noncomputable def Z1z (a0 : List Int) (a1 : Int) : Option Bool := ZT Z51 (.b0 a0 a1)
noncomputable def Za9 : Mod U := ⟨[36, 22], 4, fun x => Z1z x.1 x.2.1, by decide⟩
noncomputable def Z9Y : Z2R -> Z14 U
 | .b0 a0 a1 => Z26 Tryz.f176 [36, 22] (a0, a1, ())
theorem Z92 : Z28 176 Tryz.f176 (mc Zcc msN) hsN AN 4 Z51 Z9Y
 | .b0 _ _ => by kernel_rfl
theorem Z4A : Z1p Tryz.prog B0 176 Za9 := okP Z92 (fun x => .b0 x.1 x.2.1) (by kernel_rfl) Tryz.func176 (by kernel_rfl) (by kernel_rfl) (fun _ => rfl) (fun _ => rfl)
inductive Z9O where
 | b0 (a0 : ZC) (a1 : Int)
noncomputable def Z9Q : Z9O -> Tr U (Bool ⊕ Z9O)
 | .b0 a0 a1 => .br (a0.Low != (0 : Int)) ( .br (a1 == a0.Low) ( .leaf (.inl true)) ( .br (a1 == (65535 : Int)) ( .leaf (.inl true)) ( .bind 4 (Z1z a0.Zk a1) (fun (x1 : Bool) => .leaf (.inl x1))))) ( .leaf (.inl false))
noncomputable def Z6P (a0 : ZC) (a1 : Int) : Option Bool := ZT Z9Q (.b0 a0 a1)
noncomputable def ZlZ : Mod U := ⟨[45, 22], 4, fun x => Z6P x.1 x.2.1, by decide⟩
noncomputable def Zkg : Z9O -> Z14 U
 | .b0 a0 a1 => Z26 Tryz.f173 [45, 22] (a0, a1, ())
theorem Zjb : Z28 173 Tryz.f173 (mc Z4A msN) hsN AN 4 Z9Q Zkg
 | .b0 _ _ => by kernel_rfl
theorem Zcs : Z1p Tryz.prog B0 173 ZlZ := okP Zjb (fun x => .b0 x.1 x.2.1) (by kernel_rfl) Tryz.func173 (by kernel_rfl) (by kernel_rfl) (fun _ => rfl) (fun _ => rfl)
inductive Z6G where
 | b0 (a0 : Zj)
noncomputable def ZaO : Z6G -> Tr U (Bool ⊕ Z6G)
 | .b0 a0 => .br a0.Control ( .leaf (.inl (a0.Z4F != (0 : Int)))) ( .leaf (.inl false))
noncomputable def Z6H (a0 : Zj) : Option Bool := ZT ZaO (.b0 a0)
noncomputable def Zil : Mod U := ⟨[106], 4, fun x => Z6H x.1, by decide⟩
noncomputable def ZgW : Z6G -> Z14 U
 | .b0 a0 => Z26 Tryz.f174 [106] (a0, ())
theorem Zfv : Z28 174 Tryz.f174 msN hsN AN 4 ZaO ZgW
 | .b0 _ => by kernel_rfl
theorem Z9w : Z1p Tryz.prog B0 174 Zil := okP Zfv (fun x => .b0 x.1) (by kernel_rfl) Tryz.func174 (by kernel_rfl) (by kernel_rfl) (fun _ => rfl) (fun _ => rfl)
inductive Z3U where
 | b0 (a0 : Zm) (a1 : Zj) (a2 : Ze) (a3 : List Za)
 | b1 (a0 : Ze) (a1 : List Za) (a2 : Zm) (a3 : Zj)
noncomputable def Z3F : Z3U -> Tr U (Z0y ⊕ Z3U)
 | .b0 a0 a1 a2 a3 => .chk (a2.Node.Z4.Zi.length == a2.Node.Z4.Zi.length) ( .chk (a2.Node.Z4.Zk.length == a2.Node.Z4.Zk.length) ( .bind 4 (Z6P a2.Node.Z4 a0.Dst) (fun (x1 : Bool) => .br x1 ( .bind 4 (Z6H a1) (fun (x2 : Bool) => .br (!x2) ( .chk ((a2.Node.Zb.length == a2.Node.Zb.length) && ((a2.Node.Cache.length == a2.Node.Cache.length) && ((a2.Node.Z9.length == a2.Node.Z9.length) && ((a2.Node.Z4.Zi.length == a2.Node.Z4.Zi.length) && ((a2.Node.Z4.Zk.length == a2.Node.Z4.Zk.length) && ((a2.Node.Low.Zk.length == a2.Node.Low.Zk.length) && ((a2.Node.Out.length == a2.Node.Out.length) && ((a2.Node.Z4.Zi.length == a2.Node.Z4.Zi.length) && ((a2.Node.Z4.Zk.length == a2.Node.Z4.Zk.length) && (a3.length == a3.length)))))))))) ( .leaf (.inr (.b1 a2 a3 a0 a1)))) ( .chk ((a2.Node.Zb.length == a2.Node.Zb.length) && ((a2.Node.Cache.length == a2.Node.Cache.length) && ((a2.Node.Z9.length == a2.Node.Z9.length) && ((a2.Node.Z4.Zi.length == a2.Node.Z4.Zi.length) && ((a2.Node.Z4.Zk.length == a2.Node.Z4.Zk.length) && ((a2.Node.Low.Zk.length == a2.Node.Low.Zk.length) && ((a2.Node.Out.length == a2.Node.Out.length) && ((a2.Node.Z4.Zi.length == a2.Node.Z4.Zi.length) && ((a2.Node.Z4.Zk.length == a2.Node.Z4.Zk.length) && (a3.length == a3.length)))))))))) ( .leaf (.inl (⟨a2, a3⟩ : Z0y)))))) ( .chk ((a2.Node.Zb.length == a2.Node.Zb.length) && ((a2.Node.Cache.length == a2.Node.Cache.length) && ((a2.Node.Z9.length == a2.Node.Z9.length) && ((a2.Node.Z4.Zi.length == a2.Node.Z4.Zi.length) && ((a2.Node.Z4.Zk.length == a2.Node.Z4.Zk.length) && ((a2.Node.Low.Zk.length == a2.Node.Low.Zk.length) && ((a2.Node.Out.length == a2.Node.Out.length) && ((a2.Node.Z4.Zi.length == a2.Node.Z4.Zi.length) && ((a2.Node.Z4.Zk.length == a2.Node.Z4.Zk.length) && (a3.length == a3.length)))))))))) ( .leaf (.inl (⟨a2, a3⟩ : Z0y)))))))
 | .b1 a0 a1 a2 a3 => .bind 108 (Z5W (⟨a2, a3⟩ : ZJ)) (fun (x1 : ZJ) => .fail)
noncomputable def Z3H (a0 : Zm) (a1 : Zj) (a2 : Ze) (a3 : List Za) : Option Z0y := ZT Z3F (.b0 a0 a1 a2 a3)
def Z5C : Shape := ⟨[.one (.ptr 0), .agg [.v 90 8 true], .agg [.v 106 10 true]], [.var 144 48 (.agg [.v 22 1 false, .v 24 1 false, .v 24 1 false, .v 32 11 true, .v 35 3 true, .v 33 1 false, .v 4 1 false, .v 4 1 false, .own 22 1, .own 64 2, .own 116 3, .v 42 2 true, .v 22 1 false, .own 108 4, .own 22 5, .v 3 1 false, .v 4 1 false, .v 3 1 false, .v 3 1 false, .v 3 1 false, .v 3 1 false, .v 22 1 false, .v 3 1 false, .v 3 1 false, .v 3 1 false, .v 3 1 false, .own 22 6, .v 3 1 false, .v 4 1 false, .v 3 1 false, .own 62 7, .v 33 1 false, .v 4 1 false, .v 3 1 false, .fn 61 [] [8]]), .row 22 true, .row 64 true, .row 116 true, .row 108 false, .row 22 false, .row 22 true, .row 62 true, .var 58 1 (.one (.own 68 9)), .row 68 true]⟩
noncomputable def Z6T : HMod U := ⟨[[.keep], k4, k0], [.var k1, .row true, .row true, .row true, .row false, .row false, .row true, .row true, .var [.own 68 11], .row true], Z5C, ⟨[], [.var 144 48 (.agg [.v 22 1 false, .v 24 1 false, .v 24 1 false, .v 32 11 true, .v 35 3 true, .v 33 1 false, .v 4 1 false, .v 4 1 false, .own 22 1, .own 64 2, .own 116 3, .v 42 2 true, .v 22 1 false, .own 108 4, .own 22 5, .v 3 1 false, .v 4 1 false, .v 3 1 false, .v 3 1 false, .v 3 1 false, .v 3 1 false, .v 22 1 false, .v 3 1 false, .v 3 1 false, .v 3 1 false, .v 3 1 false, .own 22 6, .v 3 1 false, .v 4 1 false, .v 3 1 false, .own 62 7, .v 33 1 false, .v 4 1 false, .v 3 1 false, .fn 61 [] [8]]), .row 22 true, .row 64 true, .row 116 true, .row 108 false, .row 22 false, .row 22 true, .row 62 true, .var 58 1 (.one (.own 68 9)), .row 68 true]⟩, false, 1384, fun (y : Z0y) => ((), ((y.q0.Node.Address, (y.q0.Node.Device, (y.q0.Node.App, (y.q0.Node.Keys, (y.q0.Node.IV, (y.q0.Node.Seq, (y.q0.Node.Z06, (y.q0.Node.Zw, (y.q0.Node.Z5, (y.q0.Node.Z4.Low, (y.q0.Node.Z4.Bit, (y.q0.Node.Z4.Sent, (y.q0.Node.Z4.Z04, (y.q0.Node.Z4.Counter, (y.q0.Node.Z4.Dropped, (y.q0.Node.Low.Z0j, (y.q0.Node.Low.Z4, (y.q0.Node.Low.Bit, (y.q0.Node.Low.Counter, (y.q0.Node.Low.Due, (y.q0.Node.Low.Z0S, (y.q0.Node.Low.Told, (y.q0.Node.Low.More, (y.q0.Node.Low.Last, (y.q0.Node.ZP, (y.q0.Node.Up, (y.q0.Z0M, ()))))))))))))))))))))))))))), (y.q0.Node.Zb, (y.q0.Node.Cache, (y.q0.Node.Z9, (y.q0.Node.Z4.Zi, (y.q0.Node.Z4.Zk, (y.q0.Node.Low.Zk, (y.q0.Node.Out, ((), (y.q1, ()))))))))))), fun x => Z3H x.1.2.1.1 x.1.2.2.1.1 (⟨(⟨x.2.1.1, x.2.1.2.1, x.2.1.2.2.1, x.2.1.2.2.2.1, x.2.1.2.2.2.2.1, x.2.1.2.2.2.2.2.1, x.2.1.2.2.2.2.2.2.1, x.2.1.2.2.2.2.2.2.2.1, x.2.2.1, x.2.2.2.1, x.2.2.2.2.1, x.2.1.2.2.2.2.2.2.2.2.1, (⟨x.2.1.2.2.2.2.2.2.2.2.2.1, x.2.2.2.2.2.1, x.2.2.2.2.2.2.1, x.2.1.2.2.2.2.2.2.2.2.2.2.1, x.2.1.2.2.2.2.2.2.2.2.2.2.2.1, x.2.1.2.2.2.2.2.2.2.2.2.2.2.2.1, x.2.1.2.2.2.2.2.2.2.2.2.2.2.2.2.1, x.2.1.2.2.2.2.2.2.2.2.2.2.2.2.2.2.1⟩ : ZC), (⟨x.2.1.2.2.2.2.2.2.2.2.2.2.2.2.2.2.2.1, x.2.1.2.2.2.2.2.2.2.2.2.2.2.2.2.2.2.2.1, x.2.1.2.2.2.2.2.2.2.2.2.2.2.2.2.2.2.2.2.1, x.2.1.2.2.2.2.2.2.2.2.2.2.2.2.2.2.2.2.2.2.1, x.2.1.2.2.2.2.2.2.2.2.2.2.2.2.2.2.2.2.2.2.2.1, x.2.1.2.2.2.2.2.2.2.2.2.2.2.2.2.2.2.2.2.2.2.2.1, x.2.2.2.2.2.2.2.1, x.2.1.2.2.2.2.2.2.2.2.2.2.2.2.2.2.2.2.2.2.2.2.2.1, x.2.1.2.2.2.2.2.2.2.2.2.2.2.2.2.2.2.2.2.2.2.2.2.2.1, x.2.1.2.2.2.2.2.2.2.2.2.2.2.2.2.2.2.2.2.2.2.2.2.2.2.1⟩ : ZA), x.2.2.2.2.2.2.2.2.1, x.2.1.2.2.2.2.2.2.2.2.2.2.2.2.2.2.2.2.2.2.2.2.2.2.2.2.1, x.2.1.2.2.2.2.2.2.2.2.2.2.2.2.2.2.2.2.2.2.2.2.2.2.2.2.2.1⟩ : Zg), x.2.1.2.2.2.2.2.2.2.2.2.2.2.2.2.2.2.2.2.2.2.2.2.2.2.2.2.2.1⟩ : Ze) x.2.2.2.2.2.2.2.2.2.2.1, ⟨⟨trivial, ⟨⟨⟨by decide, fun _ => ⟨_, rfl, rfl⟩⟩, trivial⟩, ⟨⟨⟨by decide, fun _ => ⟨_, rfl, rfl⟩⟩, trivial⟩, trivial⟩⟩⟩, ⟨⟨⟨by decide, fun _ => rfl⟩, ⟨⟨by decide, fun _ => rfl⟩, ⟨⟨by decide, fun _ => rfl⟩, ⟨⟨by decide, fun _ => ⟨_, rfl, rfl⟩⟩, ⟨⟨by decide, fun _ => ⟨_, rfl, rfl⟩⟩, ⟨⟨by decide, fun _ => rfl⟩, ⟨⟨by decide, fun _ => rfl⟩, ⟨⟨by decide, fun _ => rfl⟩, ⟨trivial, ⟨trivial, ⟨trivial, ⟨⟨by decide, fun _ => ⟨_, rfl, rfl⟩⟩, ⟨⟨by decide, fun _ => rfl⟩, ⟨trivial, ⟨trivial, ⟨⟨by decide, fun _ => rfl⟩, ⟨⟨by decide, fun _ => rfl⟩, ⟨⟨by decide, fun _ => rfl⟩, ⟨⟨by decide, fun _ => rfl⟩, ⟨⟨by decide, fun _ => rfl⟩, ⟨⟨by decide, fun _ => rfl⟩, ⟨⟨by decide, fun _ => rfl⟩, ⟨⟨by decide, fun _ => rfl⟩, ⟨⟨by decide, fun _ => rfl⟩, ⟨⟨by decide, fun _ => rfl⟩, ⟨⟨by decide, fun _ => rfl⟩, ⟨trivial, ⟨⟨by decide, fun _ => rfl⟩, ⟨⟨by decide, fun _ => rfl⟩, ⟨⟨by decide, fun _ => rfl⟩, ⟨trivial, ⟨⟨by decide, fun _ => rfl⟩, ⟨⟨by decide, fun _ => rfl⟩, ⟨⟨by decide, fun _ => rfl⟩, ⟨trivial, trivial⟩⟩⟩⟩⟩⟩⟩⟩⟩⟩⟩⟩⟩⟩⟩⟩⟩⟩⟩⟩⟩⟩⟩⟩⟩⟩⟩⟩⟩⟩⟩⟩⟩⟩⟩, ⟨by decide, ⟨by decide, ⟨by decide, ⟨by decide, ⟨by decide, ⟨by decide, ⟨by decide, ⟨trivial, ⟨by decide, trivial⟩⟩⟩⟩⟩⟩⟩⟩⟩⟩⟩⟩
def Z5n : Lay := ⟨[0, 4, 5], [[.keep], [.keep], [.keep]], [.var k1, .row true, .row true, .row true, .row false, .row false, .row true, .row true, .var [.own 68 11], .row true, .var k4, .var k0], ⟨[.one (.ptr 0), .one (.ptr 10), .one (.ptr 11)], [.var 144 48 (.agg [.v 22 1 false, .v 24 1 false, .v 24 1 false, .v 32 11 true, .v 35 3 true, .v 33 1 false, .v 4 1 false, .v 4 1 false, .own 22 1, .own 64 2, .own 116 3, .v 42 2 true, .v 22 1 false, .own 108 4, .own 22 5, .v 3 1 false, .v 4 1 false, .v 3 1 false, .v 3 1 false, .v 3 1 false, .v 3 1 false, .v 22 1 false, .v 3 1 false, .v 3 1 false, .v 3 1 false, .v 3 1 false, .own 22 6, .v 3 1 false, .v 4 1 false, .v 3 1 false, .own 62 7, .v 33 1 false, .v 4 1 false, .v 3 1 false, .fn 61 [] [8]]), .row 22 true, .row 64 true, .row 116 true, .row 108 false, .row 22 false, .row 22 true, .row 62 true, .var 58 1 (.one (.own 68 9)), .row 68 true, .var 90 8 (.agg [.v 90 8 true]), .var 106 10 (.agg [.v 106 10 true])]⟩⟩
def ZcM : Nat -> Option Lay
 | 2 => some Z5n
 | _ => none
noncomputable def Zc9 : Z3U -> Z14 U
 | .b0 a0 a1 a2 a3 => ZjS Tryz.f98 Z5C (((), ((a0, ()), ((a1, ()), ()))), ((a2.Node.Address, (a2.Node.Device, (a2.Node.App, (a2.Node.Keys, (a2.Node.IV, (a2.Node.Seq, (a2.Node.Z06, (a2.Node.Zw, (a2.Node.Z5, (a2.Node.Z4.Low, (a2.Node.Z4.Bit, (a2.Node.Z4.Sent, (a2.Node.Z4.Z04, (a2.Node.Z4.Counter, (a2.Node.Z4.Dropped, (a2.Node.Low.Z0j, (a2.Node.Low.Z4, (a2.Node.Low.Bit, (a2.Node.Low.Counter, (a2.Node.Low.Due, (a2.Node.Low.Z0S, (a2.Node.Low.Told, (a2.Node.Low.More, (a2.Node.Low.Last, (a2.Node.ZP, (a2.Node.Up, (a2.Z0M, ()))))))))))))))))))))))))))), (a2.Node.Zb, (a2.Node.Cache, (a2.Node.Z9, (a2.Node.Z4.Zi, (a2.Node.Z4.Zk, (a2.Node.Low.Zk, (a2.Node.Out, ((), (a3, ())))))))))))
 | .b1 a0 a1 a2 a3 => spL Tryz.f98 [1, 1, 0] Z5n (((), ((), ((), ()))), ((a0.Node.Address, (a0.Node.Device, (a0.Node.App, (a0.Node.Keys, (a0.Node.IV, (a0.Node.Seq, (a0.Node.Z06, (a0.Node.Zw, (a0.Node.Z5, (a0.Node.Z4.Low, (a0.Node.Z4.Bit, (a0.Node.Z4.Sent, (a0.Node.Z4.Z04, (a0.Node.Z4.Counter, (a0.Node.Z4.Dropped, (a0.Node.Low.Z0j, (a0.Node.Low.Z4, (a0.Node.Low.Bit, (a0.Node.Low.Counter, (a0.Node.Low.Due, (a0.Node.Low.Z0S, (a0.Node.Low.Told, (a0.Node.Low.More, (a0.Node.Low.Last, (a0.Node.ZP, (a0.Node.Up, (a0.Z0M, ()))))))))))))))))))))))))))), (a0.Node.Zb, (a0.Node.Cache, (a0.Node.Z9, (a0.Node.Z4.Zi, (a0.Node.Z4.Zk, (a0.Node.Low.Zk, (a0.Node.Out, ((), (a1, ((a2, ()), ((a3, ()), ())))))))))))))
theorem Zb0 : Zk6 98 Tryz.f98 (mc Z9C (mc Zcs (mc Z9w msN))) hsN ZcM [] [.var k1, .row true, .row true, .row true, .row false, .row false, .row true, .row true, .var [.own 68 11], .row true] 10 Z6T Z3F Zc9
 | .b0 _ _ _ _ => by kernel_rfl
 | .b1 _ _ _ _ => by kernel_rfl
theorem Zc8 : Z29 Tryz.prog B0 98 Z6T := okH Zb0 (fun x => .b0 x.1.2.1.1 x.1.2.2.1.1 (⟨(⟨x.2.1.1, x.2.1.2.1, x.2.1.2.2.1, x.2.1.2.2.2.1, x.2.1.2.2.2.2.1, x.2.1.2.2.2.2.2.1, x.2.1.2.2.2.2.2.2.1, x.2.1.2.2.2.2.2.2.2.1, x.2.2.1, x.2.2.2.1, x.2.2.2.2.1, x.2.1.2.2.2.2.2.2.2.2.1, (⟨x.2.1.2.2.2.2.2.2.2.2.2.1, x.2.2.2.2.2.1, x.2.2.2.2.2.2.1, x.2.1.2.2.2.2.2.2.2.2.2.2.1, x.2.1.2.2.2.2.2.2.2.2.2.2.2.1, x.2.1.2.2.2.2.2.2.2.2.2.2.2.2.1, x.2.1.2.2.2.2.2.2.2.2.2.2.2.2.2.1, x.2.1.2.2.2.2.2.2.2.2.2.2.2.2.2.2.1⟩ : ZC), (⟨x.2.1.2.2.2.2.2.2.2.2.2.2.2.2.2.2.2.1, x.2.1.2.2.2.2.2.2.2.2.2.2.2.2.2.2.2.2.1, x.2.1.2.2.2.2.2.2.2.2.2.2.2.2.2.2.2.2.2.1, x.2.1.2.2.2.2.2.2.2.2.2.2.2.2.2.2.2.2.2.2.1, x.2.1.2.2.2.2.2.2.2.2.2.2.2.2.2.2.2.2.2.2.2.1, x.2.1.2.2.2.2.2.2.2.2.2.2.2.2.2.2.2.2.2.2.2.2.1, x.2.2.2.2.2.2.2.1, x.2.1.2.2.2.2.2.2.2.2.2.2.2.2.2.2.2.2.2.2.2.2.2.1, x.2.1.2.2.2.2.2.2.2.2.2.2.2.2.2.2.2.2.2.2.2.2.2.2.1, x.2.1.2.2.2.2.2.2.2.2.2.2.2.2.2.2.2.2.2.2.2.2.2.2.2.1⟩ : ZA), x.2.2.2.2.2.2.2.2.1, x.2.1.2.2.2.2.2.2.2.2.2.2.2.2.2.2.2.2.2.2.2.2.2.2.2.2.1, x.2.1.2.2.2.2.2.2.2.2.2.2.2.2.2.2.2.2.2.2.2.2.2.2.2.2.2.1⟩ : Zg), x.2.1.2.2.2.2.2.2.2.2.2.2.2.2.2.2.2.2.2.2.2.2.2.2.2.2.2.2.1⟩ : Ze) x.2.2.2.2.2.2.2.2.2.2.1) (fun x => by kernel_rfl) (by kernel_rfl) Tryz.func98 (by kernel_rfl) (by kernel_rfl) (fun x => by kernel_rfl) (fun x => by kernel_rfl)
inductive Z3C where
 | b0 (a0 : Ze) (a1 : List Za)
 | b1 (a0 : Ze) (a1 : List Za)
noncomputable def Z1x : Z3C -> Tr U (Z17 ⊕ Z3C)
 | .b0 a0 a1 => .br (a0.Node.Seq == a0.Node.ZP) ( .chk ((a0.Node.Zb.length == a0.Node.Zb.length) && ((a0.Node.Cache.length == a0.Node.Cache.length) && ((a0.Node.Z9.length == a0.Node.Z9.length) && ((a0.Node.Z4.Zi.length == a0.Node.Z4.Zi.length) && ((a0.Node.Z4.Zk.length == a0.Node.Z4.Zk.length) && ((a0.Node.Low.Zk.length == a0.Node.Low.Zk.length) && ((a0.Node.Out.length == a0.Node.Out.length) && ((a0.Node.Z4.Zi.length == a0.Node.Z4.Zi.length) && ((a0.Node.Z4.Zk.length == a0.Node.Z4.Zk.length) && (a1.length == a1.length)))))))))) ( .leaf (.inr (.b1 (⟨({ a0.Node with ZP := (IntKind.wrap .u32 (a0.Node.ZP + (100 : Int))) } : Zg), a0.Z0M⟩ : Ze) a1)))) ( .chk ((a0.Node.Zb.length == a0.Node.Zb.length) && ((a0.Node.Cache.length == a0.Node.Cache.length) && ((a0.Node.Z9.length == a0.Node.Z9.length) && ((a0.Node.Z4.Zi.length == a0.Node.Z4.Zi.length) && ((a0.Node.Z4.Zk.length == a0.Node.Z4.Zk.length) && ((a0.Node.Low.Zk.length == a0.Node.Low.Zk.length) && ((a0.Node.Out.length == a0.Node.Out.length) && ((a0.Node.Z4.Zi.length == a0.Node.Z4.Zi.length) && ((a0.Node.Z4.Zk.length == a0.Node.Z4.Zk.length) && (a1.length == a1.length)))))))))) ( .leaf (.inr (.b1 a0 a1))))
 | .b1 a0 a1 => .chk ((a0.Node.Zb.length == a0.Node.Zb.length) && ((a0.Node.Cache.length == a0.Node.Cache.length) && ((a0.Node.Z9.length == a0.Node.Z9.length) && ((a0.Node.Z4.Zi.length == a0.Node.Z4.Zi.length) && ((a0.Node.Z4.Zk.length == a0.Node.Z4.Zk.length) && ((a0.Node.Low.Zk.length == a0.Node.Low.Zk.length) && ((a0.Node.Out.length == a0.Node.Out.length) && ((a0.Node.Z4.Zi.length == a0.Node.Z4.Zi.length) && ((a0.Node.Z4.Zk.length == a0.Node.Z4.Zk.length) && (a1.length == a1.length)))))))))) ( .leaf (.inl (⟨(IntKind.wrap .u32 ((IntKind.wrap .u32 (a0.Node.Seq + (1 : Int))) - (1 : Int))), (⟨({ a0.Node with Seq := (IntKind.wrap .u32 (a0.Node.Seq + (1 : Int))) } : Zg), a0.Z0M⟩ : Ze), a1⟩ : Z17)))
noncomputable def Z3z (a0 : Ze) (a1 : List Za) : Option Z17 := ZT Z1x (.b0 a0 a1)
def Z5j : Shape := ⟨[.one (.ptr 0)], [.var 144 48 (.agg [.v 22 1 false, .v 24 1 false, .v 24 1 false, .v 32 11 true, .v 35 3 true, .v 33 1 false, .v 4 1 false, .v 4 1 false, .own 22 1, .own 64 2, .own 116 3, .v 42 2 true, .v 22 1 false, .own 108 4, .own 22 5, .v 3 1 false, .v 4 1 false, .v 3 1 false, .v 3 1 false, .v 3 1 false, .v 3 1 false, .v 22 1 false, .v 3 1 false, .v 3 1 false, .v 3 1 false, .v 3 1 false, .own 22 6, .v 3 1 false, .v 4 1 false, .v 3 1 false, .own 62 7, .v 33 1 false, .v 4 1 false, .v 3 1 false, .fn 61 [] [8]]), .row 22 true, .row 64 true, .row 116 true, .row 108 false, .row 22 false, .row 22 true, .row 62 true, .var 58 1 (.one (.own 68 9)), .row 68 true]⟩
noncomputable def Z7g : HMod U := ⟨[[.keep]], [.var k1, .row true, .row true, .row true, .row false, .row false, .row true, .row true, .var [.own 68 11], .row true], Z5j, ⟨[.one (.v 33 1 false)], [.var 144 48 (.agg [.v 22 1 false, .v 24 1 false, .v 24 1 false, .v 32 11 true, .v 35 3 true, .v 33 1 false, .v 4 1 false, .v 4 1 false, .own 22 1, .own 64 2, .own 116 3, .v 42 2 true, .v 22 1 false, .own 108 4, .own 22 5, .v 3 1 false, .v 4 1 false, .v 3 1 false, .v 3 1 false, .v 3 1 false, .v 3 1 false, .v 22 1 false, .v 3 1 false, .v 3 1 false, .v 3 1 false, .v 3 1 false, .own 22 6, .v 3 1 false, .v 4 1 false, .v 3 1 false, .own 62 7, .v 33 1 false, .v 4 1 false, .v 3 1 false, .fn 61 [] [8]]), .row 22 true, .row 64 true, .row 116 true, .row 108 false, .row 22 false, .row 22 true, .row 62 true, .var 58 1 (.one (.own 68 9)), .row 68 true]⟩, true, 1382, fun (y : Z17) => (((y.q0, ()), ()), ((y.q1.Node.Address, (y.q1.Node.Device, (y.q1.Node.App, (y.q1.Node.Keys, (y.q1.Node.IV, (y.q1.Node.Seq, (y.q1.Node.Z06, (y.q1.Node.Zw, (y.q1.Node.Z5, (y.q1.Node.Z4.Low, (y.q1.Node.Z4.Bit, (y.q1.Node.Z4.Sent, (y.q1.Node.Z4.Z04, (y.q1.Node.Z4.Counter, (y.q1.Node.Z4.Dropped, (y.q1.Node.Low.Z0j, (y.q1.Node.Low.Z4, (y.q1.Node.Low.Bit, (y.q1.Node.Low.Counter, (y.q1.Node.Low.Due, (y.q1.Node.Low.Z0S, (y.q1.Node.Low.Told, (y.q1.Node.Low.More, (y.q1.Node.Low.Last, (y.q1.Node.ZP, (y.q1.Node.Up, (y.q1.Z0M, ()))))))))))))))))))))))))))), (y.q1.Node.Zb, (y.q1.Node.Cache, (y.q1.Node.Z9, (y.q1.Node.Z4.Zi, (y.q1.Node.Z4.Zk, (y.q1.Node.Low.Zk, (y.q1.Node.Out, ((), (y.q2, ()))))))))))), fun x => Z3z (⟨(⟨x.2.1.1, x.2.1.2.1, x.2.1.2.2.1, x.2.1.2.2.2.1, x.2.1.2.2.2.2.1, x.2.1.2.2.2.2.2.1, x.2.1.2.2.2.2.2.2.1, x.2.1.2.2.2.2.2.2.2.1, x.2.2.1, x.2.2.2.1, x.2.2.2.2.1, x.2.1.2.2.2.2.2.2.2.2.1, (⟨x.2.1.2.2.2.2.2.2.2.2.2.1, x.2.2.2.2.2.1, x.2.2.2.2.2.2.1, x.2.1.2.2.2.2.2.2.2.2.2.2.1, x.2.1.2.2.2.2.2.2.2.2.2.2.2.1, x.2.1.2.2.2.2.2.2.2.2.2.2.2.2.1, x.2.1.2.2.2.2.2.2.2.2.2.2.2.2.2.1, x.2.1.2.2.2.2.2.2.2.2.2.2.2.2.2.2.1⟩ : ZC), (⟨x.2.1.2.2.2.2.2.2.2.2.2.2.2.2.2.2.2.1, x.2.1.2.2.2.2.2.2.2.2.2.2.2.2.2.2.2.2.1, x.2.1.2.2.2.2.2.2.2.2.2.2.2.2.2.2.2.2.2.1, x.2.1.2.2.2.2.2.2.2.2.2.2.2.2.2.2.2.2.2.2.1, x.2.1.2.2.2.2.2.2.2.2.2.2.2.2.2.2.2.2.2.2.2.1, x.2.1.2.2.2.2.2.2.2.2.2.2.2.2.2.2.2.2.2.2.2.2.1, x.2.2.2.2.2.2.2.1, x.2.1.2.2.2.2.2.2.2.2.2.2.2.2.2.2.2.2.2.2.2.2.2.1, x.2.1.2.2.2.2.2.2.2.2.2.2.2.2.2.2.2.2.2.2.2.2.2.2.1, x.2.1.2.2.2.2.2.2.2.2.2.2.2.2.2.2.2.2.2.2.2.2.2.2.2.1⟩ : ZA), x.2.2.2.2.2.2.2.2.1, x.2.1.2.2.2.2.2.2.2.2.2.2.2.2.2.2.2.2.2.2.2.2.2.2.2.2.1, x.2.1.2.2.2.2.2.2.2.2.2.2.2.2.2.2.2.2.2.2.2.2.2.2.2.2.2.1⟩ : Zg), x.2.1.2.2.2.2.2.2.2.2.2.2.2.2.2.2.2.2.2.2.2.2.2.2.2.2.2.2.1⟩ : Ze) x.2.2.2.2.2.2.2.2.2.2.1, ⟨⟨trivial, trivial⟩, ⟨⟨⟨by decide, fun _ => rfl⟩, ⟨⟨by decide, fun _ => rfl⟩, ⟨⟨by decide, fun _ => rfl⟩, ⟨⟨by decide, fun _ => ⟨_, rfl, rfl⟩⟩, ⟨⟨by decide, fun _ => ⟨_, rfl, rfl⟩⟩, ⟨⟨by decide, fun _ => rfl⟩, ⟨⟨by decide, fun _ => rfl⟩, ⟨⟨by decide, fun _ => rfl⟩, ⟨trivial, ⟨trivial, ⟨trivial, ⟨⟨by decide, fun _ => ⟨_, rfl, rfl⟩⟩, ⟨⟨by decide, fun _ => rfl⟩, ⟨trivial, ⟨trivial, ⟨⟨by decide, fun _ => rfl⟩, ⟨⟨by decide, fun _ => rfl⟩, ⟨⟨by decide, fun _ => rfl⟩, ⟨⟨by decide, fun _ => rfl⟩, ⟨⟨by decide, fun _ => rfl⟩, ⟨⟨by decide, fun _ => rfl⟩, ⟨⟨by decide, fun _ => rfl⟩, ⟨⟨by decide, fun _ => rfl⟩, ⟨⟨by decide, fun _ => rfl⟩, ⟨⟨by decide, fun _ => rfl⟩, ⟨⟨by decide, fun _ => rfl⟩, ⟨trivial, ⟨⟨by decide, fun _ => rfl⟩, ⟨⟨by decide, fun _ => rfl⟩, ⟨⟨by decide, fun _ => rfl⟩, ⟨trivial, ⟨⟨by decide, fun _ => rfl⟩, ⟨⟨by decide, fun _ => rfl⟩, ⟨⟨by decide, fun _ => rfl⟩, ⟨trivial, trivial⟩⟩⟩⟩⟩⟩⟩⟩⟩⟩⟩⟩⟩⟩⟩⟩⟩⟩⟩⟩⟩⟩⟩⟩⟩⟩⟩⟩⟩⟩⟩⟩⟩⟩⟩, ⟨by decide, ⟨by decide, ⟨by decide, ⟨by decide, ⟨by decide, ⟨by decide, ⟨by decide, ⟨trivial, ⟨by decide, trivial⟩⟩⟩⟩⟩⟩⟩⟩⟩⟩⟩⟩
def Z5k : Lay := ⟨[0], [[.keep]], [.var k1, .row true, .row true, .row true, .row false, .row false, .row true, .row true, .var [.own 68 11], .row true], ⟨[.one (.ptr 0)], [.var 144 48 (.agg [.v 22 1 false, .v 24 1 false, .v 24 1 false, .v 32 11 true, .v 35 3 true, .v 33 1 false, .v 4 1 false, .v 4 1 false, .own 22 1, .own 64 2, .own 116 3, .v 42 2 true, .v 22 1 false, .own 108 4, .own 22 5, .v 3 1 false, .v 4 1 false, .v 3 1 false, .v 3 1 false, .v 3 1 false, .v 3 1 false, .v 22 1 false, .v 3 1 false, .v 3 1 false, .v 3 1 false, .v 3 1 false, .own 22 6, .v 3 1 false, .v 4 1 false, .v 3 1 false, .own 62 7, .v 33 1 false, .v 4 1 false, .v 3 1 false, .fn 61 [] [8]]), .row 22 true, .row 64 true, .row 116 true, .row 108 false, .row 22 false, .row 22 true, .row 62 true, .var 58 1 (.one (.own 68 9)), .row 68 true]⟩⟩
def ZcL : Nat -> Option Lay
 | 3 => some Z5k
 | _ => none
noncomputable def Zc3 : Z3C -> Z14 U
 | .b0 a0 a1 => ZjS Tryz.f149 Z5j (((), ()), ((a0.Node.Address, (a0.Node.Device, (a0.Node.App, (a0.Node.Keys, (a0.Node.IV, (a0.Node.Seq, (a0.Node.Z06, (a0.Node.Zw, (a0.Node.Z5, (a0.Node.Z4.Low, (a0.Node.Z4.Bit, (a0.Node.Z4.Sent, (a0.Node.Z4.Z04, (a0.Node.Z4.Counter, (a0.Node.Z4.Dropped, (a0.Node.Low.Z0j, (a0.Node.Low.Z4, (a0.Node.Low.Bit, (a0.Node.Low.Counter, (a0.Node.Low.Due, (a0.Node.Low.Z0S, (a0.Node.Low.Told, (a0.Node.Low.More, (a0.Node.Low.Last, (a0.Node.ZP, (a0.Node.Up, (a0.Z0M, ()))))))))))))))))))))))))))), (a0.Node.Zb, (a0.Node.Cache, (a0.Node.Z9, (a0.Node.Z4.Zi, (a0.Node.Z4.Zk, (a0.Node.Low.Zk, (a0.Node.Out, ((), (a1, ())))))))))))
 | .b1 a0 a1 => spL Tryz.f149 [1, 1, 0] Z5k (((), ()), ((a0.Node.Address, (a0.Node.Device, (a0.Node.App, (a0.Node.Keys, (a0.Node.IV, (a0.Node.Seq, (a0.Node.Z06, (a0.Node.Zw, (a0.Node.Z5, (a0.Node.Z4.Low, (a0.Node.Z4.Bit, (a0.Node.Z4.Sent, (a0.Node.Z4.Z04, (a0.Node.Z4.Counter, (a0.Node.Z4.Dropped, (a0.Node.Low.Z0j, (a0.Node.Low.Z4, (a0.Node.Low.Bit, (a0.Node.Low.Counter, (a0.Node.Low.Due, (a0.Node.Low.Z0S, (a0.Node.Low.Told, (a0.Node.Low.More, (a0.Node.Low.Last, (a0.Node.ZP, (a0.Node.Up, (a0.Z0M, ()))))))))))))))))))))))))))), (a0.Node.Zb, (a0.Node.Cache, (a0.Node.Z9, (a0.Node.Z4.Zi, (a0.Node.Z4.Zk, (a0.Node.Low.Zk, (a0.Node.Out, ((), (a1, ())))))))))))
theorem Zb6 : Zk6 149 Tryz.f149 msN hsN ZcL [[.keep]] [.var k1, .row true, .row true, .row true, .row false, .row false, .row true, .row true, .var [.own 68 11], .row true] 10 Z7g Z1x Zc3
 | .b0 _ _ => by kernel_rfl
 | .b1 _ _ => by kernel_rfl
theorem Zck : Z29 Tryz.prog B0 149 Z7g := okH Zb6 (fun x => .b0 (⟨(⟨x.2.1.1, x.2.1.2.1, x.2.1.2.2.1, x.2.1.2.2.2.1, x.2.1.2.2.2.2.1, x.2.1.2.2.2.2.2.1, x.2.1.2.2.2.2.2.2.1, x.2.1.2.2.2.2.2.2.2.1, x.2.2.1, x.2.2.2.1, x.2.2.2.2.1, x.2.1.2.2.2.2.2.2.2.2.1, (⟨x.2.1.2.2.2.2.2.2.2.2.2.1, x.2.2.2.2.2.1, x.2.2.2.2.2.2.1, x.2.1.2.2.2.2.2.2.2.2.2.2.1, x.2.1.2.2.2.2.2.2.2.2.2.2.2.1, x.2.1.2.2.2.2.2.2.2.2.2.2.2.2.1, x.2.1.2.2.2.2.2.2.2.2.2.2.2.2.2.1, x.2.1.2.2.2.2.2.2.2.2.2.2.2.2.2.2.1⟩ : ZC), (⟨x.2.1.2.2.2.2.2.2.2.2.2.2.2.2.2.2.2.1, x.2.1.2.2.2.2.2.2.2.2.2.2.2.2.2.2.2.2.1, x.2.1.2.2.2.2.2.2.2.2.2.2.2.2.2.2.2.2.2.1, x.2.1.2.2.2.2.2.2.2.2.2.2.2.2.2.2.2.2.2.2.1, x.2.1.2.2.2.2.2.2.2.2.2.2.2.2.2.2.2.2.2.2.2.1, x.2.1.2.2.2.2.2.2.2.2.2.2.2.2.2.2.2.2.2.2.2.2.1, x.2.2.2.2.2.2.2.1, x.2.1.2.2.2.2.2.2.2.2.2.2.2.2.2.2.2.2.2.2.2.2.2.1, x.2.1.2.2.2.2.2.2.2.2.2.2.2.2.2.2.2.2.2.2.2.2.2.2.1, x.2.1.2.2.2.2.2.2.2.2.2.2.2.2.2.2.2.2.2.2.2.2.2.2.2.1⟩ : ZA), x.2.2.2.2.2.2.2.2.1, x.2.1.2.2.2.2.2.2.2.2.2.2.2.2.2.2.2.2.2.2.2.2.2.2.2.2.1, x.2.1.2.2.2.2.2.2.2.2.2.2.2.2.2.2.2.2.2.2.2.2.2.2.2.2.2.1⟩ : Zg), x.2.1.2.2.2.2.2.2.2.2.2.2.2.2.2.2.2.2.2.2.2.2.2.2.2.2.2.2.1⟩ : Ze) x.2.2.2.2.2.2.2.2.2.2.1) (fun x => by kernel_rfl) (by kernel_rfl) Tryz.func149 (by kernel_rfl) (by kernel_rfl) (fun x => by kernel_rfl) (fun x => by kernel_rfl)
end Go.Proofs.YtefmbgacbhifdaaGreat
namespace Go.Proofs.YtefmbgacbhifdaaGreat
open Go Go.Proofs.YtefmbgacbhifdaaGreat.Le
set_option maxRecDepth 100000
inductive Z3X where
 | b0 (a0 : Zn) (a1 : Z3J) (a2 : Ze) (a3 : List Za)
 | b1 (a0 : Int) (a1 : List Int) (a2 : Ze) (a3 : List Za) (a4 : Zn) (a5 : Z3J)
noncomputable def Z1v : Z3X -> Tr U (Z07 ⊕ Z3X)
 | .b0 a0 a1 a2 a3 => .chk ((a2.Node.Zb.length == a2.Node.Zb.length) && ((a2.Node.Cache.length == a2.Node.Cache.length) && ((a2.Node.Z9.length == a2.Node.Z9.length) && ((a2.Node.Z4.Zi.length == a2.Node.Z4.Zi.length) && ((a2.Node.Z4.Zk.length == a2.Node.Z4.Zk.length) && ((a2.Node.Low.Zk.length == a2.Node.Low.Zk.length) && ((a2.Node.Out.length == a2.Node.Out.length) && ((a2.Node.Z4.Zi.length == a2.Node.Z4.Zi.length) && ((a2.Node.Z4.Zk.length == a2.Node.Z4.Zk.length) && (a3.length == a3.length)))))))))) ( .bind 1382 (Z3z a2 a3) (fun (y1 : Z17) => .bind 205 (Z5r a1.Lower) (fun (x2 : (List Int) × Int) => .br (x2.2 != (0 : Int)) ( .chk ((y1.q1.Node.Zb.length == y1.q1.Node.Zb.length) && ((y1.q1.Node.Cache.length == y1.q1.Node.Cache.length) && ((y1.q1.Node.Z9.length == y1.q1.Node.Z9.length) && ((y1.q1.Node.Z4.Zi.length == y1.q1.Node.Z4.Zi.length) && ((y1.q1.Node.Z4.Zk.length == y1.q1.Node.Z4.Zk.length) && ((y1.q1.Node.Low.Zk.length == y1.q1.Node.Low.Zk.length) && ((y1.q1.Node.Out.length == y1.q1.Node.Out.length) && ((y1.q1.Node.Z4.Zi.length == y1.q1.Node.Z4.Zi.length) && ((y1.q1.Node.Z4.Zk.length == y1.q1.Node.Z4.Zk.length) && (y1.q2.length == y1.q2.length)))))))))) ( .leaf (.inl (⟨y1.q1, y1.q2⟩ : Z07)))) ( .br (decide (y1.q0 > (16777215 : Int))) ( .chk ((y1.q1.Node.Zb.length == y1.q1.Node.Zb.length) && ((y1.q1.Node.Cache.length == y1.q1.Node.Cache.length) && ((y1.q1.Node.Z9.length == y1.q1.Node.Z9.length) && ((y1.q1.Node.Z4.Zi.length == y1.q1.Node.Z4.Zi.length) && ((y1.q1.Node.Z4.Zk.length == y1.q1.Node.Z4.Zk.length) && ((y1.q1.Node.Low.Zk.length == y1.q1.Node.Low.Zk.length) && ((y1.q1.Node.Out.length == y1.q1.Node.Out.length) && ((y1.q1.Node.Z4.Zi.length == y1.q1.Node.Z4.Zi.length) && ((y1.q1.Node.Z4.Zk.length == y1.q1.Node.Z4.Zk.length) && (y1.q2.length == y1.q2.length)))))))))) ( .leaf (.inl (⟨y1.q1, y1.q2⟩ : Z07)))) ( .chk ((y1.q1.Node.Zb.length == y1.q1.Node.Zb.length) && ((y1.q1.Node.Cache.length == y1.q1.Node.Cache.length) && ((y1.q1.Node.Z9.length == y1.q1.Node.Z9.length) && ((y1.q1.Node.Z4.Zi.length == y1.q1.Node.Z4.Zi.length) && ((y1.q1.Node.Z4.Zk.length == y1.q1.Node.Z4.Zk.length) && ((y1.q1.Node.Low.Zk.length == y1.q1.Node.Low.Zk.length) && ((y1.q1.Node.Out.length == y1.q1.Node.Out.length) && ((y1.q1.Node.Z4.Zi.length == y1.q1.Node.Z4.Zi.length) && ((y1.q1.Node.Z4.Zk.length == y1.q1.Node.Z4.Zk.length) && (y1.q2.length == y1.q2.length)))))))))) ( .leaf (.inr (.b1 y1.q0 x2.1 y1.q1 y1.q2 a0 a1))))))))
 | .b1 a0 a1 a2 a3 a4 a5 => .bind 33 (Z9d a2.Node.IV) (fun (x1 : Int) => .chk ((a2.Node.Zb.length == a2.Node.Zb.length) && ((a2.Node.Cache.length == a2.Node.Cache.length) && ((a2.Node.Z9.length == a2.Node.Z9.length) && ((a2.Node.Z4.Zi.length == a2.Node.Z4.Zi.length) && ((a2.Node.Z4.Zk.length == a2.Node.Z4.Zk.length) && ((a2.Node.Low.Zk.length == a2.Node.Low.Zk.length) && ((a2.Node.Out.length == a2.Node.Out.length) && ((a2.Node.Z4.Zi.length == a2.Node.Z4.Zi.length) && ((a2.Node.Z4.Zk.length == a2.Node.Z4.Zk.length) && (a3.length == a3.length)))))))))) ( .bind 1383 (Z4t a4 (⟨x1, a4.NID, a5.Lower.Control, a5.TTL, a0, a5.Src, a5.Dst, a1⟩ : Zm) a2.Z0M a2 a3) (fun (y2 : Z0N) => .br y2.q0 ( .chk ((y2.q1.Node.Zb.length == y2.q1.Node.Zb.length) && ((y2.q1.Node.Cache.length == y2.q1.Node.Cache.length) && ((y2.q1.Node.Z9.length == y2.q1.Node.Z9.length) && ((y2.q1.Node.Z4.Zi.length == y2.q1.Node.Z4.Zi.length) && ((y2.q1.Node.Z4.Zk.length == y2.q1.Node.Z4.Zk.length) && ((y2.q1.Node.Low.Zk.length == y2.q1.Node.Low.Zk.length) && ((y2.q1.Node.Out.length == y2.q1.Node.Out.length) && ((y2.q1.Node.Z4.Zi.length == y2.q1.Node.Z4.Zi.length) && ((y2.q1.Node.Z4.Zk.length == y2.q1.Node.Z4.Zk.length) && (y2.q2.length == y2.q2.length)))))))))) ( .bind 1384 (Z3H (⟨x1, a4.NID, a5.Lower.Control, a5.TTL, a0, a5.Src, a5.Dst, a1⟩ : Zm) a5.Lower y2.q1 y2.q2) (fun (y3 : Z0y) => .chk ((y3.q0.Node.Zb.length == y3.q0.Node.Zb.length) && ((y3.q0.Node.Cache.length == y3.q0.Node.Cache.length) && ((y3.q0.Node.Z9.length == y3.q0.Node.Z9.length) && ((y3.q0.Node.Z4.Zi.length == y3.q0.Node.Z4.Zi.length) && ((y3.q0.Node.Z4.Zk.length == y3.q0.Node.Z4.Zk.length) && ((y3.q0.Node.Low.Zk.length == y3.q0.Node.Low.Zk.length) && ((y3.q0.Node.Out.length == y3.q0.Node.Out.length) && ((y3.q0.Node.Z4.Zi.length == y3.q0.Node.Z4.Zi.length) && ((y3.q0.Node.Z4.Zk.length == y3.q0.Node.Z4.Zk.length) && (y3.q1.length == y3.q1.length)))))))))) ( .leaf (.inl (⟨y3.q0, y3.q1⟩ : Z07)))))) ( .chk ((y2.q1.Node.Zb.length == y2.q1.Node.Zb.length) && ((y2.q1.Node.Cache.length == y2.q1.Node.Cache.length) && ((y2.q1.Node.Z9.length == y2.q1.Node.Z9.length) && ((y2.q1.Node.Z4.Zi.length == y2.q1.Node.Z4.Zi.length) && ((y2.q1.Node.Z4.Zk.length == y2.q1.Node.Z4.Zk.length) && ((y2.q1.Node.Low.Zk.length == y2.q1.Node.Low.Zk.length) && ((y2.q1.Node.Out.length == y2.q1.Node.Out.length) && ((y2.q1.Node.Z4.Zi.length == y2.q1.Node.Z4.Zi.length) && ((y2.q1.Node.Z4.Zk.length == y2.q1.Node.Z4.Zk.length) && (y2.q2.length == y2.q2.length)))))))))) ( .leaf (.inl (⟨y2.q1, y2.q2⟩ : Z07)))))))
noncomputable def Z3V (a0 : Zn) (a1 : Z3J) (a2 : Ze) (a3 : List Za) : Option Z07 := ZT Z1v (.b0 a0 a1 a2 a3)
def Z5q : Shape := ⟨[.one (.ptr 0), .agg [.v 30 5 true], .agg [.v 149 13 true]], [.var 144 48 (.agg [.v 22 1 false, .v 24 1 false, .v 24 1 false, .v 32 11 true, .v 35 3 true, .v 33 1 false, .v 4 1 false, .v 4 1 false, .own 22 1, .own 64 2, .own 116 3, .v 42 2 true, .v 22 1 false, .own 108 4, .own 22 5, .v 3 1 false, .v 4 1 false, .v 3 1 false, .v 3 1 false, .v 3 1 false, .v 3 1 false, .v 22 1 false, .v 3 1 false, .v 3 1 false, .v 3 1 false, .v 3 1 false, .own 22 6, .v 3 1 false, .v 4 1 false, .v 3 1 false, .own 62 7, .v 33 1 false, .v 4 1 false, .v 3 1 false, .fn 61 [] [8]]), .row 22 true, .row 64 true, .row 116 true, .row 108 false, .row 22 false, .row 22 true, .row 62 true, .var 58 1 (.one (.own 68 9)), .row 68 true]⟩
noncomputable def Z7q : HMod U := ⟨[[.keep], k10, k15], [.var k1, .row true, .row true, .row true, .row false, .row false, .row true, .row true, .var [.own 68 11], .row true], Z5q, ⟨[], [.var 144 48 (.agg [.v 22 1 false, .v 24 1 false, .v 24 1 false, .v 32 11 true, .v 35 3 true, .v 33 1 false, .v 4 1 false, .v 4 1 false, .own 22 1, .own 64 2, .own 116 3, .v 42 2 true, .v 22 1 false, .own 108 4, .own 22 5, .v 3 1 false, .v 4 1 false, .v 3 1 false, .v 3 1 false, .v 3 1 false, .v 3 1 false, .v 22 1 false, .v 3 1 false, .v 3 1 false, .v 3 1 false, .v 3 1 false, .own 22 6, .v 3 1 false, .v 4 1 false, .v 3 1 false, .own 62 7, .v 33 1 false, .v 4 1 false, .v 3 1 false, .fn 61 [] [8]]), .row 22 true, .row 64 true, .row 116 true, .row 108 false, .row 22 false, .row 22 true, .row 62 true, .var 58 1 (.one (.own 68 9)), .row 68 true]⟩, false, 1381, fun (y : Z07) => ((), ((y.q0.Node.Address, (y.q0.Node.Device, (y.q0.Node.App, (y.q0.Node.Keys, (y.q0.Node.IV, (y.q0.Node.Seq, (y.q0.Node.Z06, (y.q0.Node.Zw, (y.q0.Node.Z5, (y.q0.Node.Z4.Low, (y.q0.Node.Z4.Bit, (y.q0.Node.Z4.Sent, (y.q0.Node.Z4.Z04, (y.q0.Node.Z4.Counter, (y.q0.Node.Z4.Dropped, (y.q0.Node.Low.Z0j, (y.q0.Node.Low.Z4, (y.q0.Node.Low.Bit, (y.q0.Node.Low.Counter, (y.q0.Node.Low.Due, (y.q0.Node.Low.Z0S, (y.q0.Node.Low.Told, (y.q0.Node.Low.More, (y.q0.Node.Low.Last, (y.q0.Node.ZP, (y.q0.Node.Up, (y.q0.Z0M, ()))))))))))))))))))))))))))), (y.q0.Node.Zb, (y.q0.Node.Cache, (y.q0.Node.Z9, (y.q0.Node.Z4.Zi, (y.q0.Node.Z4.Zk, (y.q0.Node.Low.Zk, (y.q0.Node.Out, ((), (y.q1, ()))))))))))), fun x => Z3V x.1.2.1.1 x.1.2.2.1.1 (⟨(⟨x.2.1.1, x.2.1.2.1, x.2.1.2.2.1, x.2.1.2.2.2.1, x.2.1.2.2.2.2.1, x.2.1.2.2.2.2.2.1, x.2.1.2.2.2.2.2.2.1, x.2.1.2.2.2.2.2.2.2.1, x.2.2.1, x.2.2.2.1, x.2.2.2.2.1, x.2.1.2.2.2.2.2.2.2.2.1, (⟨x.2.1.2.2.2.2.2.2.2.2.2.1, x.2.2.2.2.2.1, x.2.2.2.2.2.2.1, x.2.1.2.2.2.2.2.2.2.2.2.2.1, x.2.1.2.2.2.2.2.2.2.2.2.2.2.1, x.2.1.2.2.2.2.2.2.2.2.2.2.2.2.1, x.2.1.2.2.2.2.2.2.2.2.2.2.2.2.2.1, x.2.1.2.2.2.2.2.2.2.2.2.2.2.2.2.2.1⟩ : ZC), (⟨x.2.1.2.2.2.2.2.2.2.2.2.2.2.2.2.2.2.1, x.2.1.2.2.2.2.2.2.2.2.2.2.2.2.2.2.2.2.1, x.2.1.2.2.2.2.2.2.2.2.2.2.2.2.2.2.2.2.2.1, x.2.1.2.2.2.2.2.2.2.2.2.2.2.2.2.2.2.2.2.2.1, x.2.1.2.2.2.2.2.2.2.2.2.2.2.2.2.2.2.2.2.2.2.1, x.2.1.2.2.2.2.2.2.2.2.2.2.2.2.2.2.2.2.2.2.2.2.1, x.2.2.2.2.2.2.2.1, x.2.1.2.2.2.2.2.2.2.2.2.2.2.2.2.2.2.2.2.2.2.2.2.1, x.2.1.2.2.2.2.2.2.2.2.2.2.2.2.2.2.2.2.2.2.2.2.2.2.1, x.2.1.2.2.2.2.2.2.2.2.2.2.2.2.2.2.2.2.2.2.2.2.2.2.2.1⟩ : ZA), x.2.2.2.2.2.2.2.2.1, x.2.1.2.2.2.2.2.2.2.2.2.2.2.2.2.2.2.2.2.2.2.2.2.2.2.2.1, x.2.1.2.2.2.2.2.2.2.2.2.2.2.2.2.2.2.2.2.2.2.2.2.2.2.2.2.1⟩ : Zg), x.2.1.2.2.2.2.2.2.2.2.2.2.2.2.2.2.2.2.2.2.2.2.2.2.2.2.2.2.1⟩ : Ze) x.2.2.2.2.2.2.2.2.2.2.1, ⟨⟨trivial, ⟨⟨⟨by decide, fun _ => ⟨_, rfl, rfl⟩⟩, trivial⟩, ⟨⟨⟨by decide, fun _ => ⟨_, rfl, rfl⟩⟩, trivial⟩, trivial⟩⟩⟩, ⟨⟨⟨by decide, fun _ => rfl⟩, ⟨⟨by decide, fun _ => rfl⟩, ⟨⟨by decide, fun _ => rfl⟩, ⟨⟨by decide, fun _ => ⟨_, rfl, rfl⟩⟩, ⟨⟨by decide, fun _ => ⟨_, rfl, rfl⟩⟩, ⟨⟨by decide, fun _ => rfl⟩, ⟨⟨by decide, fun _ => rfl⟩, ⟨⟨by decide, fun _ => rfl⟩, ⟨trivial, ⟨trivial, ⟨trivial, ⟨⟨by decide, fun _ => ⟨_, rfl, rfl⟩⟩, ⟨⟨by decide, fun _ => rfl⟩, ⟨trivial, ⟨trivial, ⟨⟨by decide, fun _ => rfl⟩, ⟨⟨by decide, fun _ => rfl⟩, ⟨⟨by decide, fun _ => rfl⟩, ⟨⟨by decide, fun _ => rfl⟩, ⟨⟨by decide, fun _ => rfl⟩, ⟨⟨by decide, fun _ => rfl⟩, ⟨⟨by decide, fun _ => rfl⟩, ⟨⟨by decide, fun _ => rfl⟩, ⟨⟨by decide, fun _ => rfl⟩, ⟨⟨by decide, fun _ => rfl⟩, ⟨⟨by decide, fun _ => rfl⟩, ⟨trivial, ⟨⟨by decide, fun _ => rfl⟩, ⟨⟨by decide, fun _ => rfl⟩, ⟨⟨by decide, fun _ => rfl⟩, ⟨trivial, ⟨⟨by decide, fun _ => rfl⟩, ⟨⟨by decide, fun _ => rfl⟩, ⟨⟨by decide, fun _ => rfl⟩, ⟨trivial, trivial⟩⟩⟩⟩⟩⟩⟩⟩⟩⟩⟩⟩⟩⟩⟩⟩⟩⟩⟩⟩⟩⟩⟩⟩⟩⟩⟩⟩⟩⟩⟩⟩⟩⟩⟩, ⟨by decide, ⟨by decide, ⟨by decide, ⟨by decide, ⟨by decide, ⟨by decide, ⟨by decide, ⟨trivial, ⟨by decide, trivial⟩⟩⟩⟩⟩⟩⟩⟩⟩⟩⟩⟩
def Z5v : Lay := ⟨[0, 4, 5, 6, 7], [[.keep], [.keep], [.keep], [.keep], [.s 5 1]], [.var k1, .row true, .row true, .row true, .row false, .row false, .row true, .row true, .var [.own 68 11], .row true, .var k10, .var k15], ⟨[.one (.ptr 0), .one (.ptr 10), .one (.ptr 11), .one (.v 33 1 false), .one (.v 27 1 false)], [.var 144 48 (.agg [.v 22 1 false, .v 24 1 false, .v 24 1 false, .v 32 11 true, .v 35 3 true, .v 33 1 false, .v 4 1 false, .v 4 1 false, .own 22 1, .own 64 2, .own 116 3, .v 42 2 true, .v 22 1 false, .own 108 4, .own 22 5, .v 3 1 false, .v 4 1 false, .v 3 1 false, .v 3 1 false, .v 3 1 false, .v 3 1 false, .v 22 1 false, .v 3 1 false, .v 3 1 false, .v 3 1 false, .v 3 1 false, .own 22 6, .v 3 1 false, .v 4 1 false, .v 3 1 false, .own 62 7, .v 33 1 false, .v 4 1 false, .v 3 1 false, .fn 61 [] [8]]), .row 22 true, .row 64 true, .row 116 true, .row 108 false, .row 22 false, .row 22 true, .row 62 true, .var 58 1 (.one (.own 68 9)), .row 68 true, .var 30 5 (.agg [.v 30 5 true]), .var 149 13 (.agg [.v 149 13 true])]⟩⟩
def Zd4 : Nat -> Option Lay
 | 4 => some Z5v
 | _ => none
noncomputable def Zc4 : Z3X -> Z14 U
 | .b0 a0 a1 a2 a3 => ZjS Tryz.f67 Z5q (((), ((a0, ()), ((a1, ()), ()))), ((a2.Node.Address, (a2.Node.Device, (a2.Node.App, (a2.Node.Keys, (a2.Node.IV, (a2.Node.Seq, (a2.Node.Z06, (a2.Node.Zw, (a2.Node.Z5, (a2.Node.Z4.Low, (a2.Node.Z4.Bit, (a2.Node.Z4.Sent, (a2.Node.Z4.Z04, (a2.Node.Z4.Counter, (a2.Node.Z4.Dropped, (a2.Node.Low.Z0j, (a2.Node.Low.Z4, (a2.Node.Low.Bit, (a2.Node.Low.Counter, (a2.Node.Low.Due, (a2.Node.Low.Z0S, (a2.Node.Low.Told, (a2.Node.Low.More, (a2.Node.Low.Last, (a2.Node.ZP, (a2.Node.Up, (a2.Z0M, ()))))))))))))))))))))))))))), (a2.Node.Zb, (a2.Node.Cache, (a2.Node.Z9, (a2.Node.Z4.Zi, (a2.Node.Z4.Zk, (a2.Node.Low.Zk, (a2.Node.Out, ((), (a3, ())))))))))))
 | .b1 a0 a1 a2 a3 a4 a5 => spL Tryz.f67 [1, 1, 1, 1, 0] Z5v (((), ((), ((), ((a0, ()), ((a1, ()), ()))))), ((a2.Node.Address, (a2.Node.Device, (a2.Node.App, (a2.Node.Keys, (a2.Node.IV, (a2.Node.Seq, (a2.Node.Z06, (a2.Node.Zw, (a2.Node.Z5, (a2.Node.Z4.Low, (a2.Node.Z4.Bit, (a2.Node.Z4.Sent, (a2.Node.Z4.Z04, (a2.Node.Z4.Counter, (a2.Node.Z4.Dropped, (a2.Node.Low.Z0j, (a2.Node.Low.Z4, (a2.Node.Low.Bit, (a2.Node.Low.Counter, (a2.Node.Low.Due, (a2.Node.Low.Z0S, (a2.Node.Low.Told, (a2.Node.Low.More, (a2.Node.Low.Last, (a2.Node.ZP, (a2.Node.Up, (a2.Z0M, ()))))))))))))))))))))))))))), (a2.Node.Zb, (a2.Node.Cache, (a2.Node.Z9, (a2.Node.Z4.Zi, (a2.Node.Z4.Zk, (a2.Node.Low.Zk, (a2.Node.Out, ((), (a3, ((a4, ()), ((a5, ()), ())))))))))))))
theorem Zbn : Zk6 67 Tryz.f67 (mc Zhe (mc ZfS msN)) (hc [] ZcS (hc [] Zc8 (hc [] Zck hsN))) Zd4 [] [.var k1, .row true, .row true, .row true, .row false, .row false, .row true, .row true, .var [.own 68 11], .row true] 10 Z7q Z1v Zc4
 | .b0 _ _ _ _ => by kernel_rfl
 | .b1 _ _ _ _ _ _ => by kernel_rfl
theorem Zc6 : Z29 Tryz.prog B0 67 Z7q := okH Zbn (fun x => .b0 x.1.2.1.1 x.1.2.2.1.1 (⟨(⟨x.2.1.1, x.2.1.2.1, x.2.1.2.2.1, x.2.1.2.2.2.1, x.2.1.2.2.2.2.1, x.2.1.2.2.2.2.2.1, x.2.1.2.2.2.2.2.2.1, x.2.1.2.2.2.2.2.2.2.1, x.2.2.1, x.2.2.2.1, x.2.2.2.2.1, x.2.1.2.2.2.2.2.2.2.2.1, (⟨x.2.1.2.2.2.2.2.2.2.2.2.1, x.2.2.2.2.2.1, x.2.2.2.2.2.2.1, x.2.1.2.2.2.2.2.2.2.2.2.2.1, x.2.1.2.2.2.2.2.2.2.2.2.2.2.1, x.2.1.2.2.2.2.2.2.2.2.2.2.2.2.1, x.2.1.2.2.2.2.2.2.2.2.2.2.2.2.2.1, x.2.1.2.2.2.2.2.2.2.2.2.2.2.2.2.2.1⟩ : ZC), (⟨x.2.1.2.2.2.2.2.2.2.2.2.2.2.2.2.2.2.1, x.2.1.2.2.2.2.2.2.2.2.2.2.2.2.2.2.2.2.1, x.2.1.2.2.2.2.2.2.2.2.2.2.2.2.2.2.2.2.2.1, x.2.1.2.2.2.2.2.2.2.2.2.2.2.2.2.2.2.2.2.2.1, x.2.1.2.2.2.2.2.2.2.2.2.2.2.2.2.2.2.2.2.2.2.1, x.2.1.2.2.2.2.2.2.2.2.2.2.2.2.2.2.2.2.2.2.2.2.1, x.2.2.2.2.2.2.2.1, x.2.1.2.2.2.2.2.2.2.2.2.2.2.2.2.2.2.2.2.2.2.2.2.1, x.2.1.2.2.2.2.2.2.2.2.2.2.2.2.2.2.2.2.2.2.2.2.2.2.1, x.2.1.2.2.2.2.2.2.2.2.2.2.2.2.2.2.2.2.2.2.2.2.2.2.2.1⟩ : ZA), x.2.2.2.2.2.2.2.2.1, x.2.1.2.2.2.2.2.2.2.2.2.2.2.2.2.2.2.2.2.2.2.2.2.2.2.2.1, x.2.1.2.2.2.2.2.2.2.2.2.2.2.2.2.2.2.2.2.2.2.2.2.2.2.2.2.1⟩ : Zg), x.2.1.2.2.2.2.2.2.2.2.2.2.2.2.2.2.2.2.2.2.2.2.2.2.2.2.2.2.1⟩ : Ze) x.2.2.2.2.2.2.2.2.2.2.1) (fun x => by kernel_rfl) (by kernel_rfl) Tryz.func67 (by kernel_rfl) (by kernel_rfl) (fun x => by kernel_rfl) (fun x => by kernel_rfl)
inductive Z4O where
 | b0 (a0 : Int) (a1 : Bool) (a2 : Int) (a3 : List Int) (a4 : Ze) (a5 : List Za)
 | b1 (a0 : Int) (a1 : Bool) (a2 : Int) (a3 : List Int) (a4 : Ze) (a5 : List Za)
 | b2 (a0 : Int) (a1 : Bool) (a2 : Int) (a3 : List Int) (a4 : Ze) (a5 : List Za)
 | b3 (a0 a1 : Int) (a2 : List Zj) (a3 a4 : Int) (a5 : Ze) (a6 : List Za) (a7 : List Zl) (a8 : List Zo)
noncomputable def Z09 : Z4O -> Tr U (ZR ⊕ Z4O)
 | .b0 a0 a1 a2 a3 a4 a5 => .br (!a4.Node.Up) ( .chk (a4.Node.Z5.Out.length == a4.Node.Z5.Out.length) ( .chk (a4.Node.Z5.In.length == a4.Node.Z5.In.length) ( .chk ((a4.Node.Zb.length == a4.Node.Zb.length) && ((a4.Node.Cache.length == a4.Node.Cache.length) && ((a4.Node.Z9.length == a4.Node.Z9.length) && ((a4.Node.Z4.Zi.length == a4.Node.Z4.Zi.length) && ((a4.Node.Z4.Zk.length == a4.Node.Z4.Zk.length) && ((a4.Node.Low.Zk.length == a4.Node.Low.Zk.length) && ((a4.Node.Out.length == a4.Node.Out.length) && ((a4.Node.Z5.Out.length == a4.Node.Z5.Out.length) && ((a4.Node.Z5.In.length == a4.Node.Z5.In.length) && ((a4.Node.Z4.Zi.length == a4.Node.Z4.Zi.length) && ((a4.Node.Z4.Zk.length == a4.Node.Z4.Zk.length) && (a5.length == a5.length)))))))))))) ( .leaf (.inl (⟨(9 : Int), a4, a5, a4.Node.Z5.Out, a4.Node.Z5.In⟩ : ZR)))))) ( .bind 4 (Z2p a0) (fun (x1 : Bool) => .br (!x1) ( .bind 4 (Z4G a0) (fun (x2 : Bool) => .br (!x2) ( .chk (a4.Node.Z5.Out.length == a4.Node.Z5.Out.length) ( .chk (a4.Node.Z5.In.length == a4.Node.Z5.In.length) ( .chk ((a4.Node.Zb.length == a4.Node.Zb.length) && ((a4.Node.Cache.length == a4.Node.Cache.length) && ((a4.Node.Z9.length == a4.Node.Z9.length) && ((a4.Node.Z4.Zi.length == a4.Node.Z4.Zi.length) && ((a4.Node.Z4.Zk.length == a4.Node.Z4.Zk.length) && ((a4.Node.Low.Zk.length == a4.Node.Low.Zk.length) && ((a4.Node.Out.length == a4.Node.Out.length) && ((a4.Node.Z5.Out.length == a4.Node.Z5.Out.length) && ((a4.Node.Z5.In.length == a4.Node.Z5.In.length) && ((a4.Node.Z4.Zi.length == a4.Node.Z4.Zi.length) && ((a4.Node.Z4.Zk.length == a4.Node.Z4.Zk.length) && (a5.length == a5.length)))))))))))) ( .leaf (.inl (⟨(1 : Int), a4, a5, a4.Node.Z5.Out, a4.Node.Z5.In⟩ : ZR)))))) ( .chk ((a4.Node.Zb.length == a4.Node.Zb.length) && ((a4.Node.Cache.length == a4.Node.Cache.length) && ((a4.Node.Z9.length == a4.Node.Z9.length) && ((a4.Node.Z5.Out.length == a4.Node.Z5.Out.length) && ((a4.Node.Z5.In.length == a4.Node.Z5.In.length) && ((a4.Node.Z4.Zi.length == a4.Node.Z4.Zi.length) && ((a4.Node.Z4.Zk.length == a4.Node.Z4.Zk.length) && ((a4.Node.Low.Zk.length == a4.Node.Low.Zk.length) && ((a4.Node.Out.length == a4.Node.Out.length) && (a5.length == a5.length)))))))))) ( .leaf (.inr (.b1 a0 a1 a2 a3 a4 a5)))))) ( .chk ((a4.Node.Zb.length == a4.Node.Zb.length) && ((a4.Node.Cache.length == a4.Node.Cache.length) && ((a4.Node.Z9.length == a4.Node.Z9.length) && ((a4.Node.Z5.Out.length == a4.Node.Z5.Out.length) && ((a4.Node.Z5.In.length == a4.Node.Z5.In.length) && ((a4.Node.Z4.Zi.length == a4.Node.Z4.Zi.length) && ((a4.Node.Z4.Zk.length == a4.Node.Z4.Zk.length) && ((a4.Node.Low.Zk.length == a4.Node.Low.Zk.length) && ((a4.Node.Out.length == a4.Node.Out.length) && (a5.length == a5.length)))))))))) ( .leaf (.inr (.b1 a0 a1 a2 a3 a4 a5))))))
 | .b1 a0 a1 a2 a3 a4 a5 => .br (decide (a2 < (0 : Int))) ( .chk (a4.Node.Z5.Out.length == a4.Node.Z5.Out.length) ( .chk (a4.Node.Z5.In.length == a4.Node.Z5.In.length) ( .chk ((a4.Node.Zb.length == a4.Node.Zb.length) && ((a4.Node.Cache.length == a4.Node.Cache.length) && ((a4.Node.Z9.length == a4.Node.Z9.length) && ((a4.Node.Z4.Zi.length == a4.Node.Z4.Zi.length) && ((a4.Node.Z4.Zk.length == a4.Node.Z4.Zk.length) && ((a4.Node.Low.Zk.length == a4.Node.Low.Zk.length) && ((a4.Node.Out.length == a4.Node.Out.length) && ((a4.Node.Z5.Out.length == a4.Node.Z5.Out.length) && ((a4.Node.Z5.In.length == a4.Node.Z5.In.length) && ((a4.Node.Z4.Zi.length == a4.Node.Z4.Zi.length) && ((a4.Node.Z4.Zk.length == a4.Node.Z4.Zk.length) && (a5.length == a5.length)))))))))))) ( .leaf (.inl (⟨(5 : Int), a4, a5, a4.Node.Z5.Out, a4.Node.Z5.In⟩ : ZR)))))) ( .br (decide (a2 > (127 : Int))) ( .chk (a4.Node.Z5.Out.length == a4.Node.Z5.Out.length) ( .chk (a4.Node.Z5.In.length == a4.Node.Z5.In.length) ( .chk ((a4.Node.Zb.length == a4.Node.Zb.length) && ((a4.Node.Cache.length == a4.Node.Cache.length) && ((a4.Node.Z9.length == a4.Node.Z9.length) && ((a4.Node.Z4.Zi.length == a4.Node.Z4.Zi.length) && ((a4.Node.Z4.Zk.length == a4.Node.Z4.Zk.length) && ((a4.Node.Low.Zk.length == a4.Node.Low.Zk.length) && ((a4.Node.Out.length == a4.Node.Out.length) && ((a4.Node.Z5.Out.length == a4.Node.Z5.Out.length) && ((a4.Node.Z5.In.length == a4.Node.Z5.In.length) && ((a4.Node.Z4.Zi.length == a4.Node.Z4.Zi.length) && ((a4.Node.Z4.Zk.length == a4.Node.Z4.Zk.length) && (a5.length == a5.length)))))))))))) ( .leaf (.inl (⟨(5 : Int), a4, a5, a4.Node.Z5.Out, a4.Node.Z5.In⟩ : ZR)))))) ( .chk ((a4.Node.Zb.length == a4.Node.Zb.length) && ((a4.Node.Cache.length == a4.Node.Cache.length) && ((a4.Node.Z9.length == a4.Node.Z9.length) && ((a4.Node.Z5.Out.length == a4.Node.Z5.Out.length) && ((a4.Node.Z5.In.length == a4.Node.Z5.In.length) && ((a4.Node.Z4.Zi.length == a4.Node.Z4.Zi.length) && ((a4.Node.Z4.Zk.length == a4.Node.Z4.Zk.length) && ((a4.Node.Low.Zk.length == a4.Node.Low.Zk.length) && ((a4.Node.Out.length == a4.Node.Out.length) && (a5.length == a5.length)))))))))) ( .leaf (.inr (.b2 a0 a1 a2 a3 a4 a5)))))
 | .b2 a0 a1 a2 a3 a4 a5 => .br ((↑a3.length : Int) == (0 : Int)) ( .chk (a4.Node.Z5.Out.length == a4.Node.Z5.Out.length) ( .chk (a4.Node.Z5.In.length == a4.Node.Z5.In.length) ( .chk ((a4.Node.Zb.length == a4.Node.Zb.length) && ((a4.Node.Cache.length == a4.Node.Cache.length) && ((a4.Node.Z9.length == a4.Node.Z9.length) && ((a4.Node.Z4.Zi.length == a4.Node.Z4.Zi.length) && ((a4.Node.Z4.Zk.length == a4.Node.Z4.Zk.length) && ((a4.Node.Low.Zk.length == a4.Node.Low.Zk.length) && ((a4.Node.Out.length == a4.Node.Out.length) && ((a4.Node.Z5.Out.length == a4.Node.Z5.Out.length) && ((a4.Node.Z5.In.length == a4.Node.Z5.In.length) && ((a4.Node.Z4.Zi.length == a4.Node.Z4.Zi.length) && ((a4.Node.Z4.Zk.length == a4.Node.Z4.Zk.length) && (a5.length == a5.length)))))))))))) ( .leaf (.inl (⟨(1 : Int), a4, a5, a4.Node.Z5.Out, a4.Node.Z5.In⟩ : ZR)))))) ( .br (decide ((↑a3.length : Int) > (380 : Int))) ( .chk (a4.Node.Z5.Out.length == a4.Node.Z5.Out.length) ( .chk (a4.Node.Z5.In.length == a4.Node.Z5.In.length) ( .chk ((a4.Node.Zb.length == a4.Node.Zb.length) && ((a4.Node.Cache.length == a4.Node.Cache.length) && ((a4.Node.Z9.length == a4.Node.Z9.length) && ((a4.Node.Z4.Zi.length == a4.Node.Z4.Zi.length) && ((a4.Node.Z4.Zk.length == a4.Node.Z4.Zk.length) && ((a4.Node.Low.Zk.length == a4.Node.Low.Zk.length) && ((a4.Node.Out.length == a4.Node.Out.length) && ((a4.Node.Z5.Out.length == a4.Node.Z5.Out.length) && ((a4.Node.Z5.In.length == a4.Node.Z5.In.length) && ((a4.Node.Z4.Zi.length == a4.Node.Z4.Zi.length) && ((a4.Node.Z4.Zk.length == a4.Node.Z4.Zk.length) && (a5.length == a5.length)))))))))))) ( .leaf (.inl (⟨(4 : Int), a4, a5, a4.Node.Z5.Out, a4.Node.Z5.In⟩ : ZR)))))) ( .bind 33 (Z9d a4.Node.IV) (fun (x1 : Int) => .bind 24 (Z2f (⟨(⟨a4.Node.Address, a4.Node.Device, a4.Node.App, a4.Node.Keys, a4.Node.IV, a4.Node.Seq, a4.Node.Z06, a4.Node.Zw, (⟨a4.Node.Z4.Low, a4.Node.Z4.Bit, a4.Node.Z4.Sent, a4.Node.Z4.Z04, a4.Node.Z4.Counter, a4.Node.Z4.Dropped⟩ : Z70), (⟨a4.Node.Low.Z0j, a4.Node.Low.Z4, a4.Node.Low.Bit, a4.Node.Low.Counter, a4.Node.Low.Due, a4.Node.Low.Z0S, a4.Node.Low.Told, a4.Node.Low.More, a4.Node.Low.Last⟩ : Z4H), a4.Node.ZP, a4.Node.Up⟩ : Zai), a4.Z0M⟩ : Z0g) a1) (fun (x2 : Int) => .bind 27 (Z6k x2 a1 (⟨a4.Node.Address, x1, a4.Node.Seq⟩ : Zd) a0 a3) (fun (x3 : List Int) => .chk (a4.Node.Z5.Out.length == a4.Node.Z5.Out.length) ( .chk (a4.Node.Z5.In.length == a4.Node.Z5.In.length) ( .bind 113 (Z7y a4.Node.Z5 (⟨a4.Node.Address, a0, a1, a2, (⟨a4.Node.Address, x1, a4.Node.Seq⟩ : Zd), x3⟩ : Zt) a4.Z0M) (fun (x4 : Zf × (List Zj) × Int) => .br (x4.2.2 != (0 : Int)) ( .chk (a4.Node.Z5.Out.length == a4.Node.Z5.Out.length) ( .chk (a4.Node.Z5.In.length == a4.Node.Z5.In.length) ( .chk ((a4.Node.Zb.length == a4.Node.Zb.length) && ((a4.Node.Cache.length == a4.Node.Cache.length) && ((a4.Node.Z9.length == a4.Node.Z9.length) && ((a4.Node.Z4.Zi.length == a4.Node.Z4.Zi.length) && ((a4.Node.Z4.Zk.length == a4.Node.Z4.Zk.length) && ((a4.Node.Low.Zk.length == a4.Node.Low.Zk.length) && ((a4.Node.Out.length == a4.Node.Out.length) && ((a4.Node.Z5.Out.length == a4.Node.Z5.Out.length) && ((a4.Node.Z5.In.length == a4.Node.Z5.In.length) && ((a4.Node.Z4.Zi.length == a4.Node.Z4.Zi.length) && ((a4.Node.Z4.Zk.length == a4.Node.Z4.Zk.length) && (a5.length == a5.length)))))))))))) ( .leaf (.inl (⟨x4.2.2, a4, a5, a4.Node.Z5.Out, a4.Node.Z5.In⟩ : ZR)))))) ( .chk ((a4.Node.Zb.length == a4.Node.Zb.length) && ((a4.Node.Cache.length == a4.Node.Cache.length) && ((a4.Node.Z9.length == a4.Node.Z9.length) && ((a4.Node.Z4.Zi.length == a4.Node.Z4.Zi.length) && ((a4.Node.Z4.Zk.length == a4.Node.Z4.Zk.length) && ((a4.Node.Low.Zk.length == a4.Node.Low.Zk.length) && ((a4.Node.Out.length == a4.Node.Out.length) && ((a4.Node.Z5.Out.length == a4.Node.Z5.Out.length) && ((a4.Node.Z5.In.length == a4.Node.Z5.In.length) && ((a4.Node.Z4.Zi.length == a4.Node.Z4.Zi.length) && ((a4.Node.Z4.Zk.length == a4.Node.Z4.Zk.length) && (a5.length == a5.length)))))))))))) ( .leaf (.inr (.b3 a0 a2 x4.2.1 (↑x4.2.1.length : Int) (0 : Int) (⟨({ a4.Node with Z5 := x4.1 } : Zg), a4.Z0M⟩ : Ze) a5 a4.Node.Z5.Out a4.Node.Z5.In))))))))))))
 | .b3 a0 a1 a2 a3 a4 a5 a6 a7 a8 => .br (decide (a4 < a3)) ( .chk (decide (0 <= a4 /\ a4 < (↑a2.length : Int))) ( .bind 106 (a2[(Int.toNat a4)]?) (fun (x1 : Zj) => .bind 30 (Z3o (⟨(⟨a5.Node.Address, a5.Node.Device, a5.Node.App, a5.Node.Keys, a5.Node.IV, a5.Node.Seq, a5.Node.Z06, a5.Node.Zw, (⟨a5.Node.Z4.Low, a5.Node.Z4.Bit, a5.Node.Z4.Sent, a5.Node.Z4.Z04, a5.Node.Z4.Counter, a5.Node.Z4.Dropped⟩ : Z70), (⟨a5.Node.Low.Z0j, a5.Node.Low.Z4, a5.Node.Low.Bit, a5.Node.Low.Counter, a5.Node.Low.Due, a5.Node.Low.Z0S, a5.Node.Low.Told, a5.Node.Low.More, a5.Node.Low.Last⟩ : Z4H), a5.Node.ZP, a5.Node.Up⟩ : Zai), a5.Z0M⟩ : Z0g)) (fun (x2 : Zn) => .chk ((a5.Node.Zb.length == a5.Node.Zb.length) && ((a5.Node.Cache.length == a5.Node.Cache.length) && ((a5.Node.Z9.length == a5.Node.Z9.length) && ((a5.Node.Z4.Zi.length == a5.Node.Z4.Zi.length) && ((a5.Node.Z4.Zk.length == a5.Node.Z4.Zk.length) && ((a5.Node.Low.Zk.length == a5.Node.Low.Zk.length) && ((a5.Node.Out.length == a5.Node.Out.length) && ((a5.Node.Z4.Zi.length == a5.Node.Z4.Zi.length) && ((a5.Node.Z4.Zk.length == a5.Node.Z4.Zk.length) && (a6.length == a6.length)))))))))) ( .bind 1381 (Z3V x2 (⟨a5.Node.Address, a0, a1, x1⟩ : Z3J) a5 a6) (fun (y3 : Z07) => .chk ((y3.q0.Node.Zb.length == y3.q0.Node.Zb.length) && ((y3.q0.Node.Cache.length == y3.q0.Node.Cache.length) && ((y3.q0.Node.Z9.length == y3.q0.Node.Z9.length) && ((y3.q0.Node.Z4.Zi.length == y3.q0.Node.Z4.Zi.length) && ((y3.q0.Node.Z4.Zk.length == y3.q0.Node.Z4.Zk.length) && ((y3.q0.Node.Low.Zk.length == y3.q0.Node.Low.Zk.length) && ((y3.q0.Node.Out.length == y3.q0.Node.Out.length) && ((a7.length == a7.length) && ((a8.length == a8.length) && ((y3.q0.Node.Z4.Zi.length == y3.q0.Node.Z4.Zi.length) && ((y3.q0.Node.Z4.Zk.length == y3.q0.Node.Z4.Zk.length) && (y3.q1.length == y3.q1.length)))))))))))) ( .leaf (.inr (.b3 a0 a1 a2 a3 (w64 (a4 + (1 : Int))) y3.q0 y3.q1 a7 a8))))))))) ( .chk ((a5.Node.Zb.length == a5.Node.Zb.length) && ((a5.Node.Cache.length == a5.Node.Cache.length) && ((a5.Node.Z9.length == a5.Node.Z9.length) && ((a5.Node.Z4.Zi.length == a5.Node.Z4.Zi.length) && ((a5.Node.Z4.Zk.length == a5.Node.Z4.Zk.length) && ((a5.Node.Low.Zk.length == a5.Node.Low.Zk.length) && ((a5.Node.Out.length == a5.Node.Out.length) && ((a7.length == a7.length) && ((a8.length == a8.length) && ((a5.Node.Z4.Zi.length == a5.Node.Z4.Zi.length) && ((a5.Node.Z4.Zk.length == a5.Node.Z4.Zk.length) && (a6.length == a6.length)))))))))))) ( .leaf (.inl (⟨(0 : Int), a5, a6, a7, a8⟩ : ZR))))
noncomputable def Z4T (a0 : Int) (a1 : Bool) (a2 : Int) (a3 : List Int) (a4 : Ze) (a5 : List Za) : Option ZR := ZT Z09 (.b0 a0 a1 a2 a3 a4 a5)
def Z7i : Shape := ⟨[.one (.ptr 0), .one (.v 22 1 false), .one (.v 4 1 false), .one (.v 3 1 false), .one (.v 27 1 false)], [.var 144 48 (.agg [.v 22 1 false, .v 24 1 false, .v 24 1 false, .v 32 11 true, .v 35 3 true, .v 33 1 false, .v 4 1 false, .v 4 1 false, .own 22 1, .own 64 2, .own 116 3, .own 101 4, .own 104 5, .v 22 1 false, .own 108 6, .own 22 7, .v 3 1 false, .v 4 1 false, .v 3 1 false, .v 3 1 false, .v 3 1 false, .v 3 1 false, .v 22 1 false, .v 3 1 false, .v 3 1 false, .v 3 1 false, .v 3 1 false, .own 22 8, .v 3 1 false, .v 4 1 false, .v 3 1 false, .own 62 9, .v 33 1 false, .v 4 1 false, .v 3 1 false, .fn 61 [] [10]]), .row 22 true, .row 64 true, .row 116 true, .row 101 true, .row 104 true, .row 108 true, .row 22 true, .row 22 true, .row 62 true, .var 58 1 (.one (.own 68 11)), .row 68 true]⟩
noncomputable def Z8K : HMod U := ⟨[[.keep], [.keep], [.keep], [.keep], [.s 5 1]], [.var k2, .row true, .row true, .row true, .row true, .row true, .row true, .row true, .row true, .row true, .var [.own 68 11], .row true], Z7i, ⟨[.one (.v 51 1 false)], [.var 144 48 (.agg [.v 22 1 false, .v 24 1 false, .v 24 1 false, .v 32 11 true, .v 35 3 true, .v 33 1 false, .v 4 1 false, .v 4 1 false, .own 22 1, .own 64 2, .own 116 3, .v 42 2 true, .v 22 1 false, .own 108 6, .own 22 7, .v 3 1 false, .v 4 1 false, .v 3 1 false, .v 3 1 false, .v 3 1 false, .v 3 1 false, .v 22 1 false, .v 3 1 false, .v 3 1 false, .v 3 1 false, .v 3 1 false, .own 22 8, .v 3 1 false, .v 4 1 false, .v 3 1 false, .own 62 9, .v 33 1 false, .v 4 1 false, .v 3 1 false, .fn 61 [] [10]]), .row 22 true, .row 64 true, .row 116 true, .row 101 false, .row 104 false, .row 108 false, .row 22 false, .row 22 true, .row 62 true, .var 58 1 (.one (.own 68 11)), .row 68 true]⟩, true, 1376, fun (y : ZR) => (((y.q0, ()), ()), ((y.q1.Node.Address, (y.q1.Node.Device, (y.q1.Node.App, (y.q1.Node.Keys, (y.q1.Node.IV, (y.q1.Node.Seq, (y.q1.Node.Z06, (y.q1.Node.Zw, (y.q1.Node.Z5, (y.q1.Node.Z4.Low, (y.q1.Node.Z4.Bit, (y.q1.Node.Z4.Sent, (y.q1.Node.Z4.Z04, (y.q1.Node.Z4.Counter, (y.q1.Node.Z4.Dropped, (y.q1.Node.Low.Z0j, (y.q1.Node.Low.Z4, (y.q1.Node.Low.Bit, (y.q1.Node.Low.Counter, (y.q1.Node.Low.Due, (y.q1.Node.Low.Z0S, (y.q1.Node.Low.Told, (y.q1.Node.Low.More, (y.q1.Node.Low.Last, (y.q1.Node.ZP, (y.q1.Node.Up, (y.q1.Z0M, ()))))))))))))))))))))))))))), (y.q1.Node.Zb, (y.q1.Node.Cache, (y.q1.Node.Z9, (y.q3, (y.q4, (y.q1.Node.Z4.Zi, (y.q1.Node.Z4.Zk, (y.q1.Node.Low.Zk, (y.q1.Node.Out, ((), (y.q2, ()))))))))))))), fun x => Z4T x.1.2.1.1 x.1.2.2.1.1 x.1.2.2.2.1.1 x.1.2.2.2.2.1.1 (⟨(⟨x.2.1.1, x.2.1.2.1, x.2.1.2.2.1, x.2.1.2.2.2.1, x.2.1.2.2.2.2.1, x.2.1.2.2.2.2.2.1, x.2.1.2.2.2.2.2.2.1, x.2.1.2.2.2.2.2.2.2.1, x.2.2.1, x.2.2.2.1, x.2.2.2.2.1, (⟨x.2.2.2.2.2.1, x.2.2.2.2.2.2.1⟩ : Zf), (⟨x.2.1.2.2.2.2.2.2.2.2.1, x.2.2.2.2.2.2.2.1, x.2.2.2.2.2.2.2.2.1, x.2.1.2.2.2.2.2.2.2.2.2.1, x.2.1.2.2.2.2.2.2.2.2.2.2.1, x.2.1.2.2.2.2.2.2.2.2.2.2.2.1, x.2.1.2.2.2.2.2.2.2.2.2.2.2.2.1, x.2.1.2.2.2.2.2.2.2.2.2.2.2.2.2.1⟩ : ZC), (⟨x.2.1.2.2.2.2.2.2.2.2.2.2.2.2.2.2.1, x.2.1.2.2.2.2.2.2.2.2.2.2.2.2.2.2.2.1, x.2.1.2.2.2.2.2.2.2.2.2.2.2.2.2.2.2.2.1, x.2.1.2.2.2.2.2.2.2.2.2.2.2.2.2.2.2.2.2.1, x.2.1.2.2.2.2.2.2.2.2.2.2.2.2.2.2.2.2.2.2.1, x.2.1.2.2.2.2.2.2.2.2.2.2.2.2.2.2.2.2.2.2.2.1, x.2.2.2.2.2.2.2.2.2.1, x.2.1.2.2.2.2.2.2.2.2.2.2.2.2.2.2.2.2.2.2.2.2.1, x.2.1.2.2.2.2.2.2.2.2.2.2.2.2.2.2.2.2.2.2.2.2.2.1, x.2.1.2.2.2.2.2.2.2.2.2.2.2.2.2.2.2.2.2.2.2.2.2.2.1⟩ : ZA), x.2.2.2.2.2.2.2.2.2.2.1, x.2.1.2.2.2.2.2.2.2.2.2.2.2.2.2.2.2.2.2.2.2.2.2.2.2.1, x.2.1.2.2.2.2.2.2.2.2.2.2.2.2.2.2.2.2.2.2.2.2.2.2.2.2.1⟩ : Zg), x.2.1.2.2.2.2.2.2.2.2.2.2.2.2.2.2.2.2.2.2.2.2.2.2.2.2.2.1⟩ : Ze) x.2.2.2.2.2.2.2.2.2.2.2.2.1, ⟨⟨trivial, ⟨⟨by decide, fun _ => rfl⟩, ⟨⟨by decide, fun _ => rfl⟩, ⟨⟨by decide, fun _ => rfl⟩, ⟨⟨by decide, fun _ => rfl⟩, trivial⟩⟩⟩⟩⟩, ⟨⟨⟨by decide, fun _ => rfl⟩, ⟨⟨by decide, fun _ => rfl⟩, ⟨⟨by decide, fun _ => rfl⟩, ⟨⟨by decide, fun _ => ⟨_, rfl, rfl⟩⟩, ⟨⟨by decide, fun _ => ⟨_, rfl, rfl⟩⟩, ⟨⟨by decide, fun _ => rfl⟩, ⟨⟨by decide, fun _ => rfl⟩, ⟨⟨by decide, fun _ => rfl⟩, ⟨trivial, ⟨trivial, ⟨trivial, ⟨trivial, ⟨trivial, ⟨⟨by decide, fun _ => rfl⟩, ⟨trivial, ⟨trivial, ⟨⟨by decide, fun _ => rfl⟩, ⟨⟨by decide, fun _ => rfl⟩, ⟨⟨by decide, fun _ => rfl⟩, ⟨⟨by decide, fun _ => rfl⟩, ⟨⟨by decide, fun _ => rfl⟩, ⟨⟨by decide, fun _ => rfl⟩, ⟨⟨by decide, fun _ => rfl⟩, ⟨⟨by decide, fun _ => rfl⟩, ⟨⟨by decide, fun _ => rfl⟩, ⟨⟨by decide, fun _ => rfl⟩, ⟨⟨by decide, fun _ => rfl⟩, ⟨trivial, ⟨⟨by decide, fun _ => rfl⟩, ⟨⟨by decide, fun _ => rfl⟩, ⟨⟨by decide, fun _ => rfl⟩, ⟨trivial, ⟨⟨by decide, fun _ => rfl⟩, ⟨⟨by decide, fun _ => rfl⟩, ⟨⟨by decide, fun _ => rfl⟩, ⟨trivial, trivial⟩⟩⟩⟩⟩⟩⟩⟩⟩⟩⟩⟩⟩⟩⟩⟩⟩⟩⟩⟩⟩⟩⟩⟩⟩⟩⟩⟩⟩⟩⟩⟩⟩⟩⟩⟩, ⟨by decide, ⟨by decide, ⟨by decide, ⟨by decide, ⟨by decide, ⟨by decide, ⟨by decide, ⟨by decide, ⟨by decide, ⟨trivial, ⟨by decide, trivial⟩⟩⟩⟩⟩⟩⟩⟩⟩⟩⟩⟩⟩⟩
def Z79 : Lay := ⟨[0, 1, 2, 3, 4], [[.keep], [.keep], [.keep], [.keep], [.s 5 1]], [.var k2, .row true, .row true, .row true, .row true, .row true, .row true, .row true, .row true, .row true, .var [.own 68 11], .row true], ⟨[.one (.ptr 0), .one (.v 22 1 false), .one (.v 4 1 false), .one (.v 3 1 false), .one (.v 27 1 false)], [.var 144 48 (.agg [.v 22 1 false, .v 24 1 false, .v 24 1 false, .v 32 11 true, .v 35 3 true, .v 33 1 false, .v 4 1 false, .v 4 1 false, .own 22 1, .own 64 2, .own 116 3, .own 101 4, .own 104 5, .v 22 1 false, .own 108 6, .own 22 7, .v 3 1 false, .v 4 1 false, .v 3 1 false, .v 3 1 false, .v 3 1 false, .v 3 1 false, .v 22 1 false, .v 3 1 false, .v 3 1 false, .v 3 1 false, .v 3 1 false, .own 22 8, .v 3 1 false, .v 4 1 false, .v 3 1 false, .own 62 9, .v 33 1 false, .v 4 1 false, .v 3 1 false, .fn 61 [] [10]]), .row 22 true, .row 64 true, .row 116 true, .row 101 true, .row 104 true, .row 108 true, .row 22 true, .row 22 true, .row 62 true, .var 58 1 (.one (.own 68 11)), .row 68 true]⟩⟩
def Z7k : Lay := ⟨[0, 1, 2, 3, 4], [[.keep], [.keep], [.keep], [.keep], [.s 5 1]], [.var k2, .row true, .row true, .row true, .row true, .row true, .row true, .row true, .row true, .row true, .var [.own 68 11], .row true], ⟨[.one (.ptr 0), .one (.v 22 1 false), .one (.v 4 1 false), .one (.v 3 1 false), .one (.v 27 1 false)], [.var 144 48 (.agg [.v 22 1 false, .v 24 1 false, .v 24 1 false, .v 32 11 true, .v 35 3 true, .v 33 1 false, .v 4 1 false, .v 4 1 false, .own 22 1, .own 64 2, .own 116 3, .own 101 4, .own 104 5, .v 22 1 false, .own 108 6, .own 22 7, .v 3 1 false, .v 4 1 false, .v 3 1 false, .v 3 1 false, .v 3 1 false, .v 3 1 false, .v 22 1 false, .v 3 1 false, .v 3 1 false, .v 3 1 false, .v 3 1 false, .own 22 8, .v 3 1 false, .v 4 1 false, .v 3 1 false, .own 62 9, .v 33 1 false, .v 4 1 false, .v 3 1 false, .fn 61 [] [10]]), .row 22 true, .row 64 true, .row 116 true, .row 101 true, .row 104 true, .row 108 true, .row 22 true, .row 22 true, .row 62 true, .var 58 1 (.one (.own 68 11)), .row 68 true]⟩⟩
def Z6X : Lay := ⟨[0, 1, 3, 107, 108, 109], [[.keep], [.keep], [.keep], [.s 106 10], [.keep], [.keep]], [.var k1, .row true, .row true, .row true, .row false, .row false, .row false, .row false, .row true, .row true, .var [.own 68 11], .row true], ⟨[.one (.ptr 0), .one (.v 22 1 false), .one (.v 3 1 false), .one (.v 112 1 false), .one (.v 3 1 false), .one (.v 3 1 false)], [.var 144 48 (.agg [.v 22 1 false, .v 24 1 false, .v 24 1 false, .v 32 11 true, .v 35 3 true, .v 33 1 false, .v 4 1 false, .v 4 1 false, .own 22 1, .own 64 2, .own 116 3, .v 42 2 true, .v 22 1 false, .own 108 6, .own 22 7, .v 3 1 false, .v 4 1 false, .v 3 1 false, .v 3 1 false, .v 3 1 false, .v 3 1 false, .v 22 1 false, .v 3 1 false, .v 3 1 false, .v 3 1 false, .v 3 1 false, .own 22 8, .v 3 1 false, .v 4 1 false, .v 3 1 false, .own 62 9, .v 33 1 false, .v 4 1 false, .v 3 1 false, .fn 61 [] [10]]), .row 22 true, .row 64 true, .row 116 true, .row 101 false, .row 104 false, .row 108 false, .row 22 false, .row 22 true, .row 62 true, .var 58 1 (.one (.own 68 11)), .row 68 true]⟩⟩
def Zfb : Nat -> Option Lay
 | 5 => some Z79
 | 7 => some Z7k
 | 18 => some Z6X
 | _ => none
noncomputable def ZdY : Z4O -> Z14 U
 | .b0 a0 a1 a2 a3 a4 a5 => ZjS Tryz.f27 Z7i (((), ((a0, ()), ((a1, ()), ((a2, ()), ((a3, ()), ()))))), ((a4.Node.Address, (a4.Node.Device, (a4.Node.App, (a4.Node.Keys, (a4.Node.IV, (a4.Node.Seq, (a4.Node.Z06, (a4.Node.Zw, (a4.Node.Z4.Low, (a4.Node.Z4.Bit, (a4.Node.Z4.Sent, (a4.Node.Z4.Z04, (a4.Node.Z4.Counter, (a4.Node.Z4.Dropped, (a4.Node.Low.Z0j, (a4.Node.Low.Z4, (a4.Node.Low.Bit, (a4.Node.Low.Counter, (a4.Node.Low.Due, (a4.Node.Low.Z0S, (a4.Node.Low.Told, (a4.Node.Low.More, (a4.Node.Low.Last, (a4.Node.ZP, (a4.Node.Up, (a4.Z0M, ())))))))))))))))))))))))))), (a4.Node.Zb, (a4.Node.Cache, (a4.Node.Z9, (a4.Node.Z5.Out, (a4.Node.Z5.In, (a4.Node.Z4.Zi, (a4.Node.Z4.Zk, (a4.Node.Low.Zk, (a4.Node.Out, ((), (a5, ())))))))))))))
 | .b1 a0 a1 a2 a3 a4 a5 => spL Tryz.f27 [1, 0, 0, 1, 1, 1, 1, 0] Z79 (((), ((a0, ()), ((a1, ()), ((a2, ()), ((a3, ()), ()))))), ((a4.Node.Address, (a4.Node.Device, (a4.Node.App, (a4.Node.Keys, (a4.Node.IV, (a4.Node.Seq, (a4.Node.Z06, (a4.Node.Zw, (a4.Node.Z4.Low, (a4.Node.Z4.Bit, (a4.Node.Z4.Sent, (a4.Node.Z4.Z04, (a4.Node.Z4.Counter, (a4.Node.Z4.Dropped, (a4.Node.Low.Z0j, (a4.Node.Low.Z4, (a4.Node.Low.Bit, (a4.Node.Low.Counter, (a4.Node.Low.Due, (a4.Node.Low.Z0S, (a4.Node.Low.Told, (a4.Node.Low.More, (a4.Node.Low.Last, (a4.Node.ZP, (a4.Node.Up, (a4.Z0M, ())))))))))))))))))))))))))), (a4.Node.Zb, (a4.Node.Cache, (a4.Node.Z9, (a4.Node.Z5.Out, (a4.Node.Z5.In, (a4.Node.Z4.Zi, (a4.Node.Z4.Zk, (a4.Node.Low.Zk, (a4.Node.Out, ((), (a5, ())))))))))))))
 | .b2 a0 a1 a2 a3 a4 a5 => spL Tryz.f27 [1, 0, 0, 1, 1, 1, 1, 1, 1, 0] Z7k (((), ((a0, ()), ((a1, ()), ((a2, ()), ((a3, ()), ()))))), ((a4.Node.Address, (a4.Node.Device, (a4.Node.App, (a4.Node.Keys, (a4.Node.IV, (a4.Node.Seq, (a4.Node.Z06, (a4.Node.Zw, (a4.Node.Z4.Low, (a4.Node.Z4.Bit, (a4.Node.Z4.Sent, (a4.Node.Z4.Z04, (a4.Node.Z4.Counter, (a4.Node.Z4.Dropped, (a4.Node.Low.Z0j, (a4.Node.Low.Z4, (a4.Node.Low.Bit, (a4.Node.Low.Counter, (a4.Node.Low.Due, (a4.Node.Low.Z0S, (a4.Node.Low.Told, (a4.Node.Low.More, (a4.Node.Low.Last, (a4.Node.ZP, (a4.Node.Up, (a4.Z0M, ())))))))))))))))))))))))))), (a4.Node.Zb, (a4.Node.Cache, (a4.Node.Z9, (a4.Node.Z5.Out, (a4.Node.Z5.In, (a4.Node.Z4.Zi, (a4.Node.Z4.Zk, (a4.Node.Low.Zk, (a4.Node.Out, ((), (a5, ())))))))))))))
 | .b3 a0 a1 a2 a3 a4 a5 a6 a7 a8 => spL Tryz.f27 [1, 1, 1, 1, 1, 1, 1, 0, 1, 0, 0, 0] Z6X (((), ((a0, ()), ((a1, ()), ((a2, ()), ((a3, ()), ((a4, ()), ())))))), ((a5.Node.Address, (a5.Node.Device, (a5.Node.App, (a5.Node.Keys, (a5.Node.IV, (a5.Node.Seq, (a5.Node.Z06, (a5.Node.Zw, (a5.Node.Z5, (a5.Node.Z4.Low, (a5.Node.Z4.Bit, (a5.Node.Z4.Sent, (a5.Node.Z4.Z04, (a5.Node.Z4.Counter, (a5.Node.Z4.Dropped, (a5.Node.Low.Z0j, (a5.Node.Low.Z4, (a5.Node.Low.Bit, (a5.Node.Low.Counter, (a5.Node.Low.Due, (a5.Node.Low.Z0S, (a5.Node.Low.Told, (a5.Node.Low.More, (a5.Node.Low.Last, (a5.Node.ZP, (a5.Node.Up, (a5.Z0M, ()))))))))))))))))))))))))))), (a5.Node.Zb, (a5.Node.Cache, (a5.Node.Z9, (a7, (a8, (a5.Node.Z4.Zi, (a5.Node.Z4.Zk, (a5.Node.Low.Zk, (a5.Node.Out, ((), (a6, ())))))))))))))
theorem Zdf : Zk6 27 Tryz.f27 (mc Z6M (mc Z8J (mc Zhe (mc Zg3 (mc Z8w (mc Zhu (mc ZaU msN))))))) (hc [] Zc6 hsN) Zfb [[.keep]] [.var k1, .row true, .row true, .row true, .row false, .row false, .row false, .row false, .row true, .row true, .var [.own 68 11], .row true] 12 Z8K Z09 ZdY
 | .b0 _ _ _ _ _ _ => by kernel_rfl
 | .b1 _ _ _ _ _ _ => by kernel_rfl
 | .b2 _ _ _ _ _ _ => by kernel_rfl
 | .b3 _ _ _ _ _ _ _ _ _ => by kernel_rfl
theorem Ze6 : Z29 Tryz.prog B0 27 Z8K := okH Zdf (fun x => .b0 x.1.2.1.1 x.1.2.2.1.1 x.1.2.2.2.1.1 x.1.2.2.2.2.1.1 (⟨(⟨x.2.1.1, x.2.1.2.1, x.2.1.2.2.1, x.2.1.2.2.2.1, x.2.1.2.2.2.2.1, x.2.1.2.2.2.2.2.1, x.2.1.2.2.2.2.2.2.1, x.2.1.2.2.2.2.2.2.2.1, x.2.2.1, x.2.2.2.1, x.2.2.2.2.1, (⟨x.2.2.2.2.2.1, x.2.2.2.2.2.2.1⟩ : Zf), (⟨x.2.1.2.2.2.2.2.2.2.2.1, x.2.2.2.2.2.2.2.1, x.2.2.2.2.2.2.2.2.1, x.2.1.2.2.2.2.2.2.2.2.2.1, x.2.1.2.2.2.2.2.2.2.2.2.2.1, x.2.1.2.2.2.2.2.2.2.2.2.2.2.1, x.2.1.2.2.2.2.2.2.2.2.2.2.2.2.1, x.2.1.2.2.2.2.2.2.2.2.2.2.2.2.2.1⟩ : ZC), (⟨x.2.1.2.2.2.2.2.2.2.2.2.2.2.2.2.2.1, x.2.1.2.2.2.2.2.2.2.2.2.2.2.2.2.2.2.1, x.2.1.2.2.2.2.2.2.2.2.2.2.2.2.2.2.2.2.1, x.2.1.2.2.2.2.2.2.2.2.2.2.2.2.2.2.2.2.2.1, x.2.1.2.2.2.2.2.2.2.2.2.2.2.2.2.2.2.2.2.2.1, x.2.1.2.2.2.2.2.2.2.2.2.2.2.2.2.2.2.2.2.2.2.1, x.2.2.2.2.2.2.2.2.2.1, x.2.1.2.2.2.2.2.2.2.2.2.2.2.2.2.2.2.2.2.2.2.2.1, x.2.1.2.2.2.2.2.2.2.2.2.2.2.2.2.2.2.2.2.2.2.2.2.1, x.2.1.2.2.2.2.2.2.2.2.2.2.2.2.2.2.2.2.2.2.2.2.2.2.1⟩ : ZA), x.2.2.2.2.2.2.2.2.2.2.1, x.2.1.2.2.2.2.2.2.2.2.2.2.2.2.2.2.2.2.2.2.2.2.2.2.2.1, x.2.1.2.2.2.2.2.2.2.2.2.2.2.2.2.2.2.2.2.2.2.2.2.2.2.2.1⟩ : Zg), x.2.1.2.2.2.2.2.2.2.2.2.2.2.2.2.2.2.2.2.2.2.2.2.2.2.2.2.1⟩ : Ze) x.2.2.2.2.2.2.2.2.2.2.2.2.1) (fun x => by kernel_rfl) (by kernel_rfl) Tryz.func27 (by kernel_rfl) (by kernel_rfl) (fun x => by kernel_rfl) (fun x => by kernel_rfl)
end Go.Proofs.YtefmbgacbhifdaaGreat
