/-
  The contracts of package group, of its reference, and of the examples that the statements ask for first.
-/
import Derived.Test.YtcjccaonfgcakaaRows
import Derived.Test.YtcjccaonfgcakaaPlain
import Derived.WalkKit
import Derived.WalkSpells
import Derived.WalkLawsBesides
import Derived.Lib.Hide
namespace Go.Proofs.Ytcjccaonfgcakaa
open Go.RowKit

set_option maxHeartbeats 400000 in
theorem times_any (a b : Int) (w : World) (ha : 0 ≤ a) (hA : a ≤ 2147483646) (hb : 0 ≤ b) (hB : b ≤ 2147483646) :
    Calls Try.prog 37 #[.int .u64 a, .int .u64 b] w fun e w' => e = .returned (.int .u64 (a * b % 2147483647)) ∧ w = w' := by
  have h0 : 0 ≤ a * b := Int.mul_nonneg ha hb
  have h1 : a * b ≤ 2147483646 * 2147483646 := Int.mul_le_mul hA hB hb (by decide)
  have h2 : a * b ≤ 4611686009837453316 := by simpa using h1
  clear h1
  go_enter Try.func37, Try.ntmps37
  go_wp2
  go_ret
  exact ⟨rfl, rfl⟩

theorem bits_and_u32 (a b : Nat) (ha : a < 4294967296) (hb : b < 4294967296) : bits .and .u32 (a : Int) (b : Int) = ((a &&& b : Nat) : Int) := by
  have hx : a &&& b < 2 ^ 32 := Nat.and_lt_two_pow _ (by omega)
  have h1 : (BitVec.ofInt 32 (a : Int)).toNat = a := by
    rw [BitVec.ofInt_natCast, BitVec.toNat_ofNat]; exact Nat.mod_eq_of_lt (by omega)
  have h2 : (BitVec.ofInt 32 (b : Int)).toNat = b := by
    rw [BitVec.ofInt_natCast, BitVec.toNat_ofNat]; exact Nat.mod_eq_of_lt (by omega)
  show IntKind.u32.wrap ((BitVec.ofInt 32 (a : Int) &&& BitVec.ofInt 32 (b : Int)).toNat : Int) = _
  rw [BitVec.toNat_and, h1, h2]
  simp only [IntKind.wrap, IntKind.bits, IntKind.signed]
  simp
  omega

/-- The test of a bit as the walk spells it. -/
theorem bit_test (n k : Nat) (hn : n < 4294967296) : bits BinOp.and IntKind.u32 ((n : Int) / 2 ^ k) 1 = ((n / 2 ^ k % 2 : Nat) : Int) := by
  have h := bits_and_u32 (n / 2 ^ k) 1 (Nat.lt_of_le_of_lt (Nat.div_le_self _ _) hn) (by decide)
  rw [Nat.and_one_is_mod] at h
  have e : ((n / 2 ^ k : Nat) : Int) = (n : Int) / 2 ^ k := by simp
  rw [e] at h
  exact h
theorem bit_one (n k : Nat) (hn : n < 4294967296) (h : n / 2 ^ k % 2 = 1) : (bits BinOp.and IntKind.u32 ((n : Int) / 2 ^ k) 1 == 1) = true := by
  rw [bit_test n k hn, h]; rfl
theorem bit_none (n k : Nat) (hn : n < 4294967296) (h : n / 2 ^ k % 2 = 0) : (bits BinOp.and IntKind.u32 ((n : Int) / 2 ^ k) 1 == 1) = false := by
  rw [bit_test n k hn, h]; rfl

theorem u64_eq {a b : Int} (h : a = b) : Value.int .u64 a = .int .u64 b := by rw [h]
theorem ret_u32 {a b : Int} (h : a = b) : Ending.returned (.int .u32 a) = .returned (.int .u32 b) := by rw [h]
theorem sq_step (m k : Nat) : ((sqN m k : Nat) : Int) * (sqN m k : Nat) % 2147483647 = (sqN m (k + 1) : Nat) := by
  rw [sqN_succ, gp_eq]; simp
theorem out_step (m n k : Nat) (h : n / 2 ^ k % 2 = 1) : ((outN m n k : Nat) : Int) * (sqN m k : Nat) % 2147483647 = (outN m n (k + 1) : Nat) := by
  rw [outN_one _ _ _ h, gp_eq]; simp

set_option maxHeartbeats 400000 in
theorem power_any (b e : Int) (w : World) (hb : 0 ≤ b) (hB : b ≤ 4294967295) (he : 0 ≤ e) (hE : e ≤ 4294967295) :
    Calls Try.prog 16 #[.int .u32 b, .int .u32 e] w fun x w' => x = .returned (.int .u32 (pw b e)) ∧ w = w' := by
  obtain ⟨n, rfl⟩ := Int.eq_ofNat_of_zero_le he
  obtain ⟨m, rfl⟩ := Int.eq_ofNat_of_zero_le hb
  go_enter Try.func16, Try.ntmps16
  go_wp2_with fail
  go_loop [5, 6, 7, 11] (fun o s _ i => ∃ k : Nat, k ≤ 32 ∧ i = .int .i64 k ∧ o = .int .u64 (outN m n k : Nat) ∧ s = .int .u64 (sqN m k : Nat)) (fun _ _ _ i => 32 - (intOf i).toNat)
  case atStart => exact ⟨0, by omega, rfl, by rw [outN_zero]; rfl, u64_eq (by rw [sqN_zero, gp_eq]; simp)⟩
  case round =>
    obtain ⟨k, hk, rfl, rfl, rfl⟩ := hrel
    have h1 := outN_lt m n k
    have h2 := sqN_lt m k
    have h3 := outN_lt m n (k + 1)
    rw [gp_eq] at h1 h2 h3
    have H4 := Lib.hid (sq_step m k)
    by_cases hlt : k < 32
    · by_cases hbit : n / 2 ^ k % 2 = 1
      · have hb1 := bit_one n k (by omega) hbit
        have H5 := Lib.hid (out_step m n k hbit)
        clear hbit
        go_wp2_with (go_at_call 37; refine (times_any _ _ _ (by omega) (by omega) (by omega) (by omega)).mono ?_; rintro e w' ⟨rfl, rfl⟩)
        go_round
        case rel => exact ⟨k + 1, by omega, by go_num, u64_eq H5.out, u64_eq H4.out⟩
        case measure => simp [intOf]; omega
      · have hbit : n / 2 ^ k % 2 = 0 := by omega
        have hb1 := bit_none n k (by omega) hbit
        have H5 := Lib.hid (outN_none m n k hbit)
        clear hbit
        go_wp2_with (go_at_call 37; refine (times_any _ _ _ (by omega) (by omega) (by omega) (by omega)).mono ?_; rintro e w' ⟨rfl, rfl⟩)
        go_round
        case rel => exact ⟨k + 1, by omega, by go_num, u64_eq (by rw [H5.out]), u64_eq H4.out⟩
        case measure => simp [intOf]; omega
    · obtain rfl : k = 32 := by omega
      have H6 := Lib.hid (outN_end m n (by omega))
      go_wp2_with fail
      go_ret
      exact ⟨ret_u32 (by rw [H6.out]; simp [pw]), rfl⟩

/-- What the reference's loop keeps. -/
def RefKeeps (p o x e : Nat) : Prop := o * x ^ e % gp = p
theorem refk_odd {p o x e : Nat} (h : RefKeeps p o x e) (hb : e % 2 = 1) : RefKeeps p (o * x % gp) (x * x % gp) (e / 2) := ref_odd o x e p h hb
theorem refk_even {p o x e : Nat} (h : RefKeeps p o x e) (hb : e % 2 = 0) : RefKeeps p o (x * x % gp) (e / 2) := ref_even o x e p h hb

theorem gmod_cast (a b : Nat) : ((a : Nat) : Int) * (b : Nat) % 2147483647 = ((a * b % gp : Nat) : Int) := by rw [gp_eq]; simp
theorem mul_small (a b : Nat) (ha : a < gp) (hb : b < gp) : 0 ≤ (a : Int) * b ∧ (a : Int) * b ≤ 4611686009837453316 := by
  rw [gp_eq] at ha hb
  have h1 : a * b ≤ 2147483646 * 2147483646 := Nat.mul_le_mul (by omega) (by omega)
  have h2 : ((a * b : Nat) : Int) = (a : Int) * b := by simp
  omega

set_option maxHeartbeats 400000 in
theorem refpower_any (b e : Int) (w : World) (hb : 0 ≤ b) (hB : b ≤ 4294967295) (he : 0 ≤ e) (hE : e ≤ 4294967295) :
    Calls Try.prog 17 #[.int .u32 b, .int .u32 e] w fun x w' => x = .returned (.int .u32 (pw b e)) ∧ w = w' := by
  obtain ⟨n, rfl⟩ := Int.eq_ofNat_of_zero_le he
  obtain ⟨m, rfl⟩ := Int.eq_ofNat_of_zero_le hb
  go_enter Try.func17, Try.ntmps17
  go_wp2_with fail
  go_loop [5, 6, 7] (fun o s i => ∃ O X E : Nat, O < gp ∧ X < gp ∧ E < 4294967296 ∧ RefKeeps (pwN m n) O X E ∧ i = .int .u32 E ∧ o = .int .u64 O ∧ s = .int .u64 X) (fun _ _ i => (intOf i).toNat)
  case atStart => exact ⟨1, m % gp, n, by decide, Nat.mod_lt _ (by decide), by omega, ref_start m n, rfl, rfl, u64_eq (by rw [gp_eq]; simp)⟩
  case round =>
    obtain ⟨O, X, E, hO, hX, hE', hkeep, rfl, rfl, rfl⟩ := hrel
    obtain ⟨h1, h1'⟩ := mul_small O X hO hX
    obtain ⟨h2, h2'⟩ := mul_small X X hX hX
    by_cases hz : E = 0
    · subst hz
      have H6 := Lib.hid (ref_end O X (pwN m n) hO hkeep)
      rw [gp_eq] at hO hX
      go_wp2_with fail
      go_ret
      exact ⟨ret_u32 (by rw [H6.out]; simp [pw]), rfl⟩
    · have hpos : 0 < E := by omega
      by_cases hodd : E % 2 = 1
      · have hk := refk_odd hkeep hodd
        have hb1 : ((E : Int) % 2 == 1) = true := by rw [beq_iff_eq]; omega
        clear hkeep hodd hz
        go_wp2_with fail
        go_round
        case rel => exact ⟨_, _, E / 2, Nat.mod_lt _ (by decide), Nat.mod_lt _ (by decide), by omega, hk, by simp, u64_eq (gmod_cast _ _), u64_eq (gmod_cast _ _)⟩
        case measure => simp [intOf]; omega
      · have hev : E % 2 = 0 := by omega
        have hk := refk_even hkeep hev
        have hb1 : ((E : Int) % 2 == 1) = false := by rw [beq_eq_false_iff_ne]; omega
        clear hkeep hodd hev hz
        go_wp2_with fail
        go_round
        case rel => exact ⟨_, _, E / 2, hO, Nat.mod_lt _ (by decide), by omega, hk, by simp, rfl, u64_eq (gmod_cast _ _)⟩
        case measure => simp [intOf]; omega
end Go.Proofs.Ytcjccaonfgcakaa
