/-
  Bits of numbers, in plain numbers: counting and turning round.
-/
import Derived.Laws.BitsAllLaws
import Derived.Test.YtjodhcdmhobmoaaGreatDoorFa10
import Derived.Laws.Bits128
namespace Go.Proofs.YtjodhcdmhobmoaaGreatDoor.Na
open Go
set_option linter.unusedVariables false

/-- the byte c, k times. -/
def rep (c : Nat) : Nat → Nat
  | 0 => 0
  | k + 1 => 256 * rep c k + c

theorem and_rep (x s c k : Nat) (hs : s ≤ 8) (hc : c < 2 ^ (8 - s)) : (x / 2 ^ s) &&& rep c (k + 1) = 256 * ((x / 256 / 2 ^ s) &&& rep c k) + ((x % 256 / 2 ^ s) &&& c) := by
  have hc8 : c < 2 ^ 8 := Nat.lt_of_lt_of_le hc (Nat.pow_le_pow_right (by omega) (by omega))
  have hb : ((x % 256 / 2 ^ s) &&& c) < 2 ^ 8 := Nat.lt_of_le_of_lt Nat.and_le_right hc8
  refine Nat.eq_of_testBit_eq fun j => ?_
  rw [show (256 : Nat) = 2 ^ 8 from rfl] at *
  rw [Nat.testBit_two_pow_mul_add _ hb]
  simp only [rep]
  rw [show (256 : Nat) = 2 ^ 8 from rfl, Nat.testBit_and, Nat.testBit_two_pow_mul_add _ hc8]
  split
  · rename_i hj
    rw [Nat.testBit_and, Nat.testBit_div_two_pow, Nat.testBit_div_two_pow, Nat.testBit_mod_two_pow]
    by_cases h : c.testBit j = true
    · have : j < 8 - s := by
        refine Nat.lt_of_not_le fun hle => ?_
        rw [Nat.testBit_lt_two_pow (Nat.lt_of_lt_of_le hc (Nat.pow_le_pow_right (by omega) hle))] at h
        cases h
      rw [h, show decide (j + s < 8) = true by simp; omega]
      simp
    · simp [h]
  · rename_i hj
    rw [Nat.testBit_and, Nat.testBit_div_two_pow, Nat.testBit_div_two_pow, Nat.testBit_div_two_pow]
    rw [show j - 8 + s + 8 = j + s by omega]

def s1 (k x : Nat) : Nat := (x / 2 &&& rep 0x55 k) + (x &&& rep 0x55 k)
def s2 (k x : Nat) : Nat := (x / 4 &&& rep 0x33 k) + (x &&& rep 0x33 k)
def s3 (k x : Nat) : Nat := (x / 16 + x) &&& rep 0x0f k

theorem s1_succ (k x : Nat) : s1 (k + 1) x = 256 * s1 k (x / 256) + s1 1 (x % 256) := by
  have h1 := and_rep x 1 0x55 k (by omega) (by decide)
  have h2 := and_rep x 0 0x55 k (by omega) (by decide)
  simp only [Nat.pow_zero, Nat.div_one, Nat.pow_one] at h1 h2
  simp only [s1]
  rw [h1, h2, show rep 0x55 1 = 0x55 from rfl]
  omega
theorem s2_succ (k h a : Nat) (ha : a < 256) : s2 (k + 1) (256 * h + a) = 256 * s2 k h + s2 1 a := by
  have h1 := and_rep (256 * h + a) 2 0x33 k (by omega) (by decide)
  have h2 := and_rep (256 * h + a) 0 0x33 k (by omega) (by decide)
  have e1 : (256 * h + a) / 256 = h := by omega
  have e2 : (256 * h + a) % 256 = a := by omega
  rw [e1, e2] at h1 h2
  simp only [Nat.pow_zero, Nat.div_one, show 2 ^ 2 = 4 from rfl] at h1 h2
  simp only [s2]
  rw [h1, h2, show rep 0x33 1 = 0x33 from rfl]
  omega
theorem s3_succ (k h a : Nat) (ha : a % 16 ≤ 4) (ha' : a / 16 ≤ 4) (hh : h % 16 ≤ 4) : s3 (k + 1) (256 * h + a) = 256 * s3 k h + s3 1 a := by
  have h2 := and_rep ((256 * h + a) / 16 + (256 * h + a)) 0 0x0f k (by omega) (by decide)
  simp only [Nat.pow_zero, Nat.div_one] at h2
  have e1 : ((256 * h + a) / 16 + (256 * h + a)) / 256 = h / 16 + h := by omega
  have e2 : ((256 * h + a) / 16 + (256 * h + a)) % 256 = (h % 16) * 16 + (a / 16 + a) := by omega
  have e3 : ((h % 16) * 16 + (a / 16 + a)) &&& 15 = (a / 16 + a) &&& 15 := by
    rw [Nat.and_two_pow_sub_one_eq_mod _ 4, Nat.and_two_pow_sub_one_eq_mod _ 4]; omega
  simp only [s3]
  rw [h2, e1, e2, e3, show rep 0x0f 1 = 0x0f from rfl]

theorem f1_lt : ∀ a < 256, s1 1 a < 256 := by decide +kernel
theorem f2_le : ∀ a < 256, s2 1 (s1 1 a) % 16 ≤ 4 ∧ s2 1 (s1 1 a) / 16 ≤ 4 ∧ s2 1 (s1 1 a) < 256 := by decide +kernel

def bc : Nat → Nat → Nat
  | 0, _ => 0
  | k + 1, x => bc k x + x / 2 ^ k % 2
theorem f3_eq : ∀ a < 256, s3 1 (s2 1 (s1 1 a)) = bc 8 a := by decide +kernel
theorem bc_le (k x : Nat) : bc k x ≤ k := by
  induction k with
  | zero => simp [bc]
  | succ k ih => simp only [bc]; omega
theorem bc_add (a k x : Nat) : bc (a + k) x = bc a x + bc k (x / 2 ^ a) := by
  induction k with
  | zero => simp [bc]
  | succ k ih =>
    show bc (a + k) x + x / 2 ^ (a + k) % 2 = _
    simp only [bc]
    rw [ih, Nat.pow_add, Nat.div_div_eq_div_mul]
    omega
theorem bc_mod (a b x : Nat) (h : a ≤ b) : bc a (x % 2 ^ b) = bc a x := by
  induction a with
  | zero => rfl
  | succ k ih =>
    simp only [bc]
    rw [ih (by omega)]
    congr 1
    have e : ∀ y, y / 2 ^ k % 2 = (y.testBit k).toNat := fun y => by rw [Nat.testBit_eq_decide_div_mod_eq]; rcases Nat.mod_two_eq_zero_or_one (y / 2 ^ k) with h | h <;> simp [h]
    rw [e, e, Nat.testBit_mod_two_pow]
    simp [show k < b by omega]
theorem bc_zero (k : Nat) : bc k 0 = 0 := by
  induction k with
  | zero => rfl
  | succ k ih => simp [bc, ih]

/-- the bytes' counts, as bytes. -/
def pb : Nat → Nat → Nat
  | 0, _ => 0
  | k + 1, x => 256 * pb k (x / 256) + bc 8 (x % 256)
theorem swar (k x : Nat) : s3 k (s2 k (s1 k x)) = pb k x ∧ s2 k (s1 k x) % 16 ≤ 4 := by
  induction k generalizing x with
  | zero => simp [s1, s2, s3, rep, pb]
  | succ k ih =>
    have ha : x % 256 < 256 := Nat.mod_lt _ (by omega)
    obtain ⟨i1, i2⟩ := ih (x / 256)
    obtain ⟨b1, b2, b3⟩ := f2_le _ ha
    rw [s1_succ, s2_succ _ _ _ (f1_lt _ ha), s3_succ _ _ _ b1 b2 i2, i1, f3_eq _ ha]
    exact ⟨rfl, by omega⟩

theorem dv (B A b : Nat) (hb : b < B) : (b + B * A) / B = A := by
  rw [Nat.add_mul_div_left _ _ (by omega), Nat.div_eq_of_lt hb]; omega
theorem sum8e (p0 p1 p2 p3 p4 p5 p6 p7 : Nat) :
    256 * (256 * (256 * (256 * (256 * (256 * (256 * (256 * 0 + p7) + p6) + p5) + p4) + p3) + p2) + p1) + p0 = p0 + 256 * (256 * (256 * (256 * (256 * (256 * (256 * p7 + p6) + p5) + p4) + p3) + p2) + p1) ∧
    (p0 + 256 * (256 * (256 * (256 * (256 * (256 * (256 * p7 + p6) + p5) + p4) + p3) + p2) + p1)) + (256 * (256 * (256 * (256 * (256 * (256 * p7 + p6) + p5) + p4) + p3) + p2) + p1) = ((p0 + p1) + 256 * (p1 + p2)) + 65536 * ((p2 + p3) + 256 * (p3 + p4) + 65536 * (p4 + p5) + 16777216 * (p5 + p6) + 4294967296 * (p6 + p7) + 1099511627776 * p7) ∧
    (((p0 + p1) + 256 * (p1 + p2)) + 65536 * ((p2 + p3) + 256 * (p3 + p4) + 65536 * (p4 + p5) + 16777216 * (p5 + p6) + 4294967296 * (p6 + p7) + 1099511627776 * p7)) + ((p2 + p3) + 256 * (p3 + p4) + 65536 * (p4 + p5) + 16777216 * (p5 + p6) + 4294967296 * (p6 + p7) + 1099511627776 * p7) = ((p0 + p1 + p2 + p3) + 256 * (p1 + p2 + p3 + p4) + 65536 * (p2 + p3 + p4 + p5) + 16777216 * (p3 + p4 + p5 + p6)) + 4294967296 * ((p4 + p5 + p6 + p7) + 256 * (p5 + p6 + p7) + 65536 * (p6 + p7) + 16777216 * p7) ∧
    (((p0 + p1 + p2 + p3) + 256 * (p1 + p2 + p3 + p4) + 65536 * (p2 + p3 + p4 + p5) + 16777216 * (p3 + p4 + p5 + p6)) + 4294967296 * ((p4 + p5 + p6 + p7) + 256 * (p5 + p6 + p7) + 65536 * (p6 + p7) + 16777216 * p7)) + ((p4 + p5 + p6 + p7) + 256 * (p5 + p6 + p7) + 65536 * (p6 + p7) + 16777216 * p7) = (p0 + p1 + p2 + p3 + p4 + p5 + p6 + p7) + 128 * (2 * (p1 + p2 + p3 + p4 + p5 + p6 + p7) + 512 * (p2 + p3 + p4 + p5 + p6 + p7) + 131072 * (p3 + p4 + p5 + p6 + p7) + 33554432 * ((p4 + p5 + p6 + p7) + 256 * (p5 + p6 + p7) + 65536 * (p6 + p7) + 16777216 * p7)) := by
  refine ⟨?_, ?_, ?_, ?_⟩ <;> omega
theorem sum8 (p0 p1 p2 p3 p4 p5 p6 p7 : Nat) (h0 : p0 ≤ 8) (h1 : p1 ≤ 8) (h2 : p2 ≤ 8) (h3 : p3 ≤ 8) (h4 : p4 ≤ 8) (h5 : p5 ≤ 8) (h6 : p6 ≤ 8) (h7 : p7 ≤ 8) (w t u v : Nat)
    (hw : w = 256 * (256 * (256 * (256 * (256 * (256 * (256 * (256 * 0 + p7) + p6) + p5) + p4) + p3) + p2) + p1) + p0) (ht : t = w + w / 256) (hu : u = t + t / 65536) (hv : v = u + u / 4294967296) :
    v % 128 = p0 + p1 + p2 + p3 + p4 + p5 + p6 + p7 ∧ w ≤ v ∧ t ≤ v ∧ u ≤ v ∧ v < 18446744073709551616 := by
  obtain ⟨q1, q2, q3, q4⟩ := sum8e p0 p1 p2 p3 p4 p5 p6 p7
  rw [q1] at hw
  rw [hw, dv 256 _ _ (Nat.lt_of_le_of_lt h0 (by decide)), q2] at ht
  rw [ht, dv 65536 _ _ (Nat.lt_of_le_of_lt (Nat.add_le_add (Nat.add_le_add h0 h1) (Nat.mul_le_mul_left 256 (Nat.add_le_add h1 h2))) (by decide)), q3] at hu
  rw [hu, dv 4294967296 _ _ (Nat.lt_of_le_of_lt (Nat.add_le_add (Nat.add_le_add (Nat.add_le_add (Nat.add_le_add (Nat.add_le_add (Nat.add_le_add h0 h1) h2) h3) (Nat.mul_le_mul_left 256 (Nat.add_le_add (Nat.add_le_add (Nat.add_le_add h1 h2) h3) h4))) (Nat.mul_le_mul_left 65536 (Nat.add_le_add (Nat.add_le_add (Nat.add_le_add h2 h3) h4) h5))) (Nat.mul_le_mul_left 16777216 (Nat.add_le_add (Nat.add_le_add (Nat.add_le_add h3 h4) h5) h6))) (by decide)), q4] at hv
  have a1 : w ≤ t := by rw [hw, ht, ← q2]; exact Nat.le_add_right _ _
  have a2 : t ≤ u := by rw [ht, hu, ← q3]; exact Nat.le_add_right _ _
  have a3 : u ≤ v := by rw [hu, hv, ← q4]; exact Nat.le_add_right _ _
  refine ⟨?_, Nat.le_trans a1 (Nat.le_trans a2 a3), Nat.le_trans a2 a3, a3, ?_⟩
  · have hs : p0 + p1 + p2 + p3 + p4 + p5 + p6 + p7 < 128 := Nat.lt_of_le_of_lt (Nat.add_le_add (Nat.add_le_add (Nat.add_le_add (Nat.add_le_add (Nat.add_le_add (Nat.add_le_add (Nat.add_le_add h0 h1) h2) h3) h4) h5) h6) h7) (by decide)
    rw [hv, Nat.add_mul_mod_self_left, Nat.mod_eq_of_lt hs]
  · clear a1 a2 a3 q1 q2 q3 q4 hw ht hu
    omega

def popN (x : Nat) : Nat :=
  let w := s3 8 (s2 8 (s1 8 x))
  let t := w + w / 256
  let u := t + t / 65536
  let v := u + u / 4294967296
  v % 128
theorem popN_eq (x : Nat) (hx : x < 2 ^ 37) : popN x = bc 37 x := by
  have h := sum8 (bc 8 (x % 256)) (bc 8 (x / 256 % 256)) (bc 8 (x / 256 / 256 % 256)) (bc 8 (x / 256 / 256 / 256 % 256)) (bc 8 (x / 256 / 256 / 256 / 256 % 256)) (bc 8 (x / 256 / 256 / 256 / 256 / 256 % 256)) (bc 8 (x / 256 / 256 / 256 / 256 / 256 / 256 % 256)) (bc 8 (x / 256 / 256 / 256 / 256 / 256 / 256 / 256 % 256))
    (bc_le _ _) (bc_le _ _) (bc_le _ _) (bc_le _ _) (bc_le _ _) (bc_le _ _) (bc_le _ _) (bc_le _ _) (pb 8 x) _ _ _ rfl rfl rfl rfl
  unfold popN
  rw [(swar 8 x).1]
  refine h.1.trans ?_
  have m8 : ∀ y, bc 8 (y % 256) = bc 8 y := fun y => bc_mod 8 8 y (Nat.le_refl 8)
  simp only [m8]
  have z5 : x / 256 / 256 / 256 / 256 / 256 = 0 := by omega
  rw [z5]
  simp only [Nat.zero_div, bc_zero, Nat.add_zero]
  rw [show 37 = 8 + (8 + (8 + (8 + 5))) from rfl, bc_add, bc_add, bc_add, bc_add]
  have e5 : bc 8 (x / 256 / 256 / 256 / 256) = bc 5 (x / 256 / 256 / 256 / 256) := by
    rw [show 8 = 5 + 3 from rfl, bc_add, show x / 256 / 256 / 256 / 256 / 2 ^ 5 = 0 by omega, bc_zero]
    rfl
  rw [e5]
  simp only [show (2 : Nat) ^ 8 = 256 from rfl]
  omega
theorem s1_lt (k x : Nat) : s1 k x < 256 ^ k := by
  induction k generalizing x with
  | zero => simp [s1, rep]
  | succ k ih =>
    have := f1_lt (x % 256) (Nat.mod_lt _ (by omega))
    have := ih (x / 256)
    rw [s1_succ, Nat.pow_succ]
    omega
theorem s2_le (k x : Nat) : 255 * s2 k (s1 k x) + 68 ≤ 68 * 256 ^ k := by
  induction k generalizing x with
  | zero => simp [s2, rep]
  | succ k ih =>
    have ha : x % 256 < 256 := Nat.mod_lt _ (by omega)
    obtain ⟨b1, b2, b3⟩ := f2_le (x % 256) ha
    have := ih (x / 256)
    rw [s1_succ, s2_succ _ _ _ (f1_lt _ ha), Nat.pow_succ]
    omega
/-- the numbers on the way stay small. -/
theorem popN_bd (x : Nat) : let w := s3 8 (s2 8 (s1 8 x))
    let t := w + w / 256
    let u := t + t / 65536
    s1 8 x < 18446744073709551616 ∧ s2 8 (s1 8 x) + s2 8 (s1 8 x) / 16 < 18446744073709551616 ∧ w < 18446744073709551616 ∧ t < 18446744073709551616 ∧ u < 18446744073709551616 ∧ u + u / 4294967296 < 18446744073709551616 := by
  have h := sum8 (bc 8 (x % 256)) (bc 8 (x / 256 % 256)) (bc 8 (x / 256 / 256 % 256)) (bc 8 (x / 256 / 256 / 256 % 256)) (bc 8 (x / 256 / 256 / 256 / 256 % 256)) (bc 8 (x / 256 / 256 / 256 / 256 / 256 % 256)) (bc 8 (x / 256 / 256 / 256 / 256 / 256 / 256 % 256)) (bc 8 (x / 256 / 256 / 256 / 256 / 256 / 256 / 256 % 256))
    (bc_le _ _) (bc_le _ _) (bc_le _ _) (bc_le _ _) (bc_le _ _) (bc_le _ _) (bc_le _ _) (bc_le _ _) (pb 8 x) _ _ _ rfl rfl rfl rfl
  intro w t u
  have e : w = pb 8 x := (swar 8 x).1
  rw [← e] at h
  have q2 := s2_le 8 x
  refine ⟨s1_lt 8 x, ?_, Nat.lt_of_le_of_lt h.2.1 h.2.2.2.2, Nat.lt_of_le_of_lt h.2.2.1 h.2.2.2.2, Nat.lt_of_le_of_lt h.2.2.2.1 h.2.2.2.2, h.2.2.2.2⟩
  clear h e
  clear_value w t u
  generalize s2 8 (s1 8 x) = y at q2
  omega

/-- 16 bits, each byte turned round. -/
def rot (x : Nat) : Nat := ((x >>> 0 &&& 257) <<< 7) ||| ((x >>> 1 &&& 257) <<< 6) ||| ((x >>> 2 &&& 257) <<< 5) ||| ((x >>> 3 &&& 257) <<< 4) ||| ((x >>> 4 &&& 257) <<< 3) ||| ((x >>> 5 &&& 257) <<< 2) ||| ((x >>> 6 &&& 257) <<< 1) ||| ((x >>> 7 &&& 257) <<< 0)
theorem rot_or (a b : Nat) : rot (a ||| b) = rot a ||| rot b := by
  have t : ∀ i j, ((a ||| b) >>> i &&& 257) <<< j = ((a >>> i &&& 257) <<< j) ||| ((b >>> i &&& 257) <<< j) := by
    intro i j
    rw [Nat.shiftRight_or_distrib, Nat.and_or_distrib_right, Nat.shiftLeft_or_distrib]
  simp only [rot, t]
  ac_rfl
def rv (k x r : Nat) : Nat := match k with
  | 0 => r
  | k + 1 => rv k (x / 2) (2 * r + x % 2)
theorem rot_lo : ∀ a < 256, rot a = rv 8 a 0 ∧ rot (256 * a) = 256 * rv 8 a 0 ∧ rv 8 a 0 < 256 := by decide +kernel
theorem rot_eq (x : Nat) (hx : x < 65536) : rot x = 256 * rv 8 (x / 256) 0 + rv 8 (x % 256) 0 := by
  have hl := rot_lo (x % 256) (Nat.mod_lt _ (by omega))
  have hh := rot_lo (x / 256) (by omega)
  have e : x = 256 * (x / 256) ||| x % 256 := by
    rw [nat_join 8 (256 * (x / 256)) (x % 256) (by omega) (by omega)]; omega
  conv => lhs; rw [e]
  rw [rot_or, hh.2.1, hl.1, nat_join 8 _ _ (by omega) (by omega)]
theorem rot_lt (x : Nat) (hx : x < 65536) : rot x < 65536 := by
  rw [rot_eq x hx]
  have := (rot_lo (x % 256) (Nat.mod_lt _ (by omega))).2.2
  have := (rot_lo (x / 256) (by omega)).2.2
  omega
end Go.Proofs.YtjodhcdmhobmoaaGreatDoor.Na

/-
  The small functions of a link: what they come to.
-/
namespace Go.Proofs.YtjodhcdmhobmoaaGreatDoor
open Go Go.Proofs.YtjodhcdmhobmoaaGreatDoor.Le
set_option linter.unusedVariables false

theorem w64_of {n : Int} (h : -9223372036854775808 ≤ n) (h' : n ≤ 9223372036854775807) : w64 n = n := by
  simp only [w64, IntKind.wrap, IntKind.signed, IntKind.bits]
  simp
  omega
def cl (lo hi x : Int) : Int := max lo (min x hi)
theorem cl_bd (lo hi x : Int) (h : lo ≤ hi) : lo ≤ cl lo hi x ∧ cl lo hi x ≤ hi := by unfold cl; omega
theorem cl1 (lo hi x : Int) (h : lo ≤ hi) : (if hi < (if lo > x then lo else x) then hi else (if lo > x then lo else x)) = cl lo hi x := by unfold cl; split <;> split <;> omega
theorem cl2 (lo hi x : Int) (h : lo ≤ hi) : (if (if hi < x then hi else x) > lo then (if hi < x then hi else x) else lo) = cl lo hi x := by unfold cl; split <;> split <;> omega

/-! ## within -/
def inSpan (s : connect_span) : Bool := decide (s.f_low ≤ s.f_n) && decide (s.f_n ≤ s.f_high)
theorem within_at (xs : List connect_span) (hl : xs.length < 1000) : ∀ (k i : Nat), i + k = xs.length → flow T_connect_within (.b1 xs xs.length i) = some ((xs.drop i).all inSpan) := by
  intro k
  induction k with
  | zero =>
    intro i hi
    refine (flow_eq _ _).trans ?_
    simp only [T_connect_within, Tr.den, flowJ]
    rw [show decide ((i : Int) < (xs.length : Int)) = false by simp; omega, List.drop_of_length_le (by omega)]
    rfl
  | succ k ih =>
    intro i hi
    have hx : i < xs.length := by omega
    refine (flow_eq _ _).trans ?_
    simp only [T_connect_within, Tr.den, flowJ]
    rw [show decide ((i : Int) < (xs.length : Int)) = true by simp; omega]
    rw [show decide (0 ≤ (i : Int) ∧ (i : Int) < (xs.length : Int)) = true by simp; omega]
    simp only [cond_true, Int.toNat_natCast, List.getElem?_eq_getElem hx, Option.bind_some]
    rw [List.drop_eq_getElem_cons hx, List.all_cons]
    by_cases h1 : (xs[i]).f_n < (xs[i]).f_low
    · rw [decide_eq_true h1, show inSpan xs[i] = false by simp [inSpan]; omega]; rfl
    · by_cases h2 : (xs[i]).f_n > (xs[i]).f_high
      · rw [decide_eq_false h1, decide_eq_true h2, show inSpan xs[i] = false by simp [inSpan]; omega]; rfl
      · rw [decide_eq_false h1, decide_eq_false h2, show inSpan xs[i] = true by simp [inSpan]; omega]
        simp only [cond_false, Bool.true_and]
        refine (flow_eq _ _).trans ?_
        simp only [T_connect_within, Tr.den, flowJ]
        rw [w64_of (by omega) (by omega)]
        exact ih (i + 1) (by omega)
theorem v_connect_within (xs : List connect_span) (hl : xs.length < 1000) : m_connect_within xs = some (xs.all inSpan) :=
  (flow_eq _ _).trans (within_at xs hl xs.length 0 (by simp))
theorem v_r17_within (x lo hi : Int) : m_r17_within x lo hi = some (decide (lo ≤ x) && decide (x ≤ hi)) := (flow_eq _ _).trans (by
  simp only [T_r17_within, Tr.den, flowJ]
  by_cases h : x ≥ lo
  · rw [decide_eq_true h]; simp
  · rw [decide_eq_false h]; simp)

/-! ## CheckUpdate -/
def inB (x lo hi : Int) : Bool := decide (lo ≤ x) && decide (x ≤ hi)
def checkUp (u : api_Update) : Int :=
  if !(inB u.WinSize 1 8 && inB u.WinOffset 0 3200 && inB u.Interval 6 3200 && inB u.Latency 0 499 && inB u.Timeout 10 3200) then 5
  else if u.WinSize ≥ u.Interval then 11 else if u.WinOffset > u.Interval then 11
  else if (w64 (u.Timeout * (10000 : Int))) ≤ (w64 ((w64 ((w64 ((2 : Int) * (w64 (u.Latency + (1 : Int))))) * u.Interval)) * (1250 : Int))) then 11 else 0
theorem v_connect_CheckUpdate (u : api_Update) : m_connect_CheckUpdate u = some (checkUp u) := (flow_eq _ _).trans (by
  simp only [T_connect_CheckUpdate, Tr.den, flowJ]
  rw [v_connect_within _ (by simp)]
  simp only [List.all_cons, List.all_nil, inSpan, Bool.and_true, Option.bind_some, List.length_cons, List.length_nil, checkUp, inB, Bool.and_assoc]
  generalize (decide (1 ≤ u.WinSize) && _) = b
  cases b with
  | false => rfl
  | true =>
    by_cases h1 : u.WinSize ≥ u.Interval
    · simp [h1]
    · by_cases h2 : u.WinOffset > u.Interval
      · simp [h1, h2]
      · by_cases h3 : (w64 (u.Timeout * (10000 : Int))) ≤ (w64 ((w64 ((w64 ((2 : Int) * (w64 (u.Latency + (1 : Int))))) * u.Interval)) * (1250 : Int)))
        · simp [h1, h2, h3]
        · simp [h1, h2, h3])
theorem v_r17_CheckUpdate (u : api_Update) : m_r17_CheckUpdate u = some (checkUp u) := (flow_eq _ _).trans (by
  simp only [T_r17_CheckUpdate, Tr.den, flowJ, v_r17_within, Option.bind_some, checkUp]
  rw [show (decide (1 ≤ u.WinSize) && decide (u.WinSize ≤ 8)) = inB u.WinSize 1 8 from rfl]
  rw [show (decide (0 ≤ u.WinOffset) && decide (u.WinOffset ≤ 3200)) = inB u.WinOffset 0 3200 from rfl]
  rw [show (decide (6 ≤ u.Interval) && decide (u.Interval ≤ 3200)) = inB u.Interval 6 3200 from rfl]
  rw [show (decide (0 ≤ u.Latency) && decide (u.Latency ≤ 499)) = inB u.Latency 0 499 from rfl]
  rw [show (decide (10 ≤ u.Timeout) && decide (u.Timeout ≤ 3200)) = inB u.Timeout 10 3200 from rfl]
  cases inB u.WinSize 1 8 <;> first | rfl | skip
  cases inB u.WinOffset 0 3200 <;> first | rfl | skip
  cases inB u.Interval 6 3200 <;> first | rfl | skip
  cases inB u.Latency 0 499 <;> first | rfl | skip
  cases inB u.Timeout 10 3200 <;> first | rfl | skip
  simp only [Bool.not_true, cond_false, Bool.and_true, Bool.false_eq_true, if_false]
  refine (flow_eq _ _).trans ?_
  simp only [T_r17_CheckUpdate, Tr.den, flowJ]
  by_cases h1 : u.WinSize ≥ u.Interval
  · simp [h1]
  · by_cases h2 : u.WinOffset > u.Interval
    · simp [h1, h2]
    · by_cases h3 : (w64 (u.Timeout * (10000 : Int))) ≤ (w64 ((w64 ((w64 ((2 : Int) * (w64 (u.Latency + (1 : Int))))) * u.Interval)) * (1250 : Int)))
      · simp [h1, h2, h3]
      · simp [h1, h2, h3])

/-! ## First -/
theorem v_connect_limit (x lo hi : Int) (h : lo ≤ hi) : m_connect_limit x lo hi = some (cl lo hi x) := (flow_eq _ _).trans (by simp only [T_connect_limit, Tr.den, flowJ, cl1 lo hi x h])
theorem v_clock_limit (x lo hi : Int) (h : lo ≤ hi) : m_clock_limit x lo hi = some (cl lo hi x) := (flow_eq _ _).trans (by simp only [T_clock_limit, Tr.den, flowJ, cl1 lo hi x h])
theorem v_r17_limited (x lo hi : Int) (h : lo ≤ hi) : m_r17_limited x lo hi = some (cl lo hi x) := (flow_eq _ _).trans (by simp only [T_r17_limited, Tr.den, flowJ, cl2 lo hi x h])
theorem v_r11_limited (x lo hi : Int) (h : lo ≤ hi) : m_r11_limited x lo hi = some (cl lo hi x) := (flow_eq _ _).trans (by
  simp only [T_r11_limited, Tr.den, flowJ, cl]
  by_cases h1 : x < lo
  · rw [decide_eq_true h1, show max lo (min x hi) = lo by omega]; rfl
  · by_cases h2 : x > hi
    · rw [decide_eq_false h1, decide_eq_true h2, show max lo (min x hi) = hi by omega]; rfl
    · rw [decide_eq_false h1, decide_eq_false h2, show max lo (min x hi) = x by omega]; rfl)
theorem v_connect_limited (u : api_Update) : m_connect_limited u = some ⟨cl 1 8 u.WinSize, cl 0 3200 u.WinOffset, cl 6 3200 u.Interval, u.Latency, cl 10 3200 u.Timeout⟩ := (flow_eq _ _).trans (by
  simp only [T_connect_limited, Tr.den, flowJ]
  rw [v_connect_limit _ _ _ (by decide), v_connect_limit _ _ _ (by decide), v_connect_limit _ _ _ (by decide), v_connect_limit _ _ _ (by decide)]
  rfl)
def firstW (t : Int) (u : api_Update) : api_Window := ⟨cl 0 4398046511104 t + 1250 + cl 0 3200 u.WinOffset * 1250, cl 0 4398046511104 t + 1250 + cl 0 3200 u.WinOffset * 1250 + cl 1 8 u.WinSize * 1250⟩
theorem v_connect_First (t : Int) (u : api_Update) : m_connect_First t u = some (firstW t u) := (flow_eq _ _).trans (by
  simp only [T_connect_First, Tr.den, flowJ, v_connect_limited, Option.bind_some]
  rw [show m_connect_moment t = some (cl 0 4398046511104 t) from (flow_eq _ _).trans (by simp only [T_connect_moment, Tr.den, flowJ]; rw [v_connect_limit _ _ _ (by decide)]; rfl)]
  simp only [Option.bind_some, firstW]
  have h1 := cl_bd 0 4398046511104 t (by decide)
  have h2 := cl_bd 0 3200 u.WinOffset (by decide)
  have h3 := cl_bd 1 8 u.WinSize (by decide)
  generalize cl 0 4398046511104 t = a at *
  generalize cl 0 3200 u.WinOffset = b at *
  generalize cl 1 8 u.WinSize = c at *
  rw [w64_of (n := 1 + b) (by omega) (by omega), w64_of (n := (1 + b) * 1250) (by omega) (by omega), w64_of (n := a + (1 + b) * 1250) (by omega) (by omega), w64_of (n := c * 1250) (by omega) (by omega), w64_of (by omega) (by omega)]
  rw [show a + (1 + b) * 1250 = a + 1250 + b * 1250 by omega])
theorem v_r17_First (t : Int) (u : api_Update) : m_r17_First t u = some (firstW t u) := (flow_eq _ _).trans (by
  simp only [T_r17_First, Tr.den, flowJ]
  have h1 := cl_bd 0 4398046511104 t (by decide)
  have h2 := cl_bd 0 3200 u.WinOffset (by decide)
  have h3 := cl_bd 1 8 u.WinSize (by decide)
  rw [show m_r17_place t = some (cl 0 4398046511104 t) from (flow_eq _ _).trans (by simp only [T_r17_place, Tr.den, flowJ]; rw [v_r17_limited _ _ _ (by decide)]; rfl)]
  rw [show m_r17_offset u = some (cl 0 3200 u.WinOffset * 1250) from (flow_eq _ _).trans (by simp only [T_r17_offset, Tr.den, flowJ]; rw [v_r17_limited _ _ _ (by decide)]; simp only [Option.bind_some]; rw [w64_of (by omega) (by omega)])]
  rw [show m_r17_size u = some (cl 1 8 u.WinSize * 1250) from (flow_eq _ _).trans (by simp only [T_r17_size, Tr.den, flowJ]; rw [v_r17_limited _ _ _ (by decide)]; simp only [Option.bind_some]; rw [w64_of (by omega) (by omega)])]
  simp only [Option.bind_some, firstW]
  generalize cl 0 4398046511104 t = a at *
  generalize cl 0 3200 u.WinOffset = b at *
  generalize cl 1 8 u.WinSize = c at *
  rw [w64_of (n := a + 1250) (by omega) (by omega), w64_of (n := a + 1250 + b * 1250) (by omega) (by omega), w64_of (by omega) (by omega)])

/-! ## parts of a new link -/
theorem v_arq_New : m_arq_New = some z_api_Arq := (flow_eq _ _).trans rfl
theorem v_r24_New : m_r24_New = some z_api_Arq := (flow_eq _ _).trans rfl
theorem v_latency_New (n : Int) : m_latency_New n = some ⟨cl 0 499 n, 0, true⟩ := (flow_eq _ _).trans (by simp only [T_latency_New, Tr.den, flowJ, cl1 0 499 n (by decide)])
theorem v_r25_New (n : Int) : m_r25_New n = some ⟨cl 0 499 n, 0, true⟩ := (flow_eq _ _).trans (by simp only [T_r25_New, Tr.den, flowJ, cl2 0 499 n (by decide)])
def newProcs (r f n : Int) : api_Procs := ⟨if r = 1 then 1 else 0, (-1 : Int), (0 : Int), [], (-1 : Int), (0 : Int), [], false, f, (0 : Int), false, false, (-1 : Int), (27 : Int), cl 27 251 n, (0 : Int), (0 : Int), (0 : Int), (0 : Int), (0 : Int)⟩
theorem v_procedure_New (r f n : Int) : m_procedure_New r f n = some (newProcs r f n) := (flow_eq _ _).trans (by
  have h : ∀ r, flow T_procedure_New (.b1 r f n z_api_Procs) = some ⟨r, (-1 : Int), (0 : Int), [], (-1 : Int), (0 : Int), [], false, f, (0 : Int), false, false, (-1 : Int), (27 : Int), cl 27 251 n, (0 : Int), (0 : Int), (0 : Int), (0 : Int), (0 : Int)⟩ := fun r => (flow_eq _ _).trans (by
    simp only [T_procedure_New, Tr.den, flowJ, cl2 27 251 n (by decide)])
  simp only [T_procedure_New, Tr.den, flowJ, h, newProcs]
  by_cases h : r = 1
  · subst h; rfl
  · rw [show (r != 1) = true by simpa using h]; simp [h])
theorem v_r28_New (r f n : Int) : m_r28_New r f n = some (newProcs r f n) := (flow_eq _ _).trans (by
  simp only [T_r28_New, Tr.den, flowJ, newProcs, cl1 27 251 n (by decide)]
  by_cases h : r = 1
  · subst h; rfl
  · rw [show (r == 1) = false by simpa using h]; simp [h])
def fresh : List api_Tally := List.replicate 37 ⟨0, 0⟩
theorem v_assess_Fresh : m_assess_Fresh = some fresh := (flow_eq _ _).trans (by
  simp only [T_assess_Fresh, Tr.den, flowJ]
  rfl)
theorem v_r14_Fresh : m_r14_Fresh = some fresh := (flow_eq _ _).trans (by
  simp only [T_r14_Fresh, Tr.den, flowJ]
  rfl)

/-! ## windows -/
theorem wide_eq (p : Int) (h0 : 0 ≤ p) (h1 : p ≤ 1099511627776000) : (p + 1000000 - 1).tdiv 1000000 = if p.tmod 1000000 > 0 then p.tdiv 1000000 + 1 else p.tdiv 1000000 := by
  rw [Int.tdiv_eq_ediv_of_nonneg (by omega), Int.tdiv_eq_ediv_of_nonneg h0, Int.tmod_eq_emod_of_nonneg h0]
  split <;> omega
def widening (p t : Int) : Int := (cl 0 1099511627776 t * cl 0 1000 p + 1000000 - 1).tdiv 1000000 + 32
theorem wide_bd (p t : Int) : 0 ≤ cl 0 1099511627776 t * cl 0 1000 p ∧ cl 0 1099511627776 t * cl 0 1000 p ≤ 1099511627776000 := by
  have h1 := cl_bd 0 1099511627776 t (by decide)
  have h2 := cl_bd 0 1000 p (by decide)
  generalize cl 0 1099511627776 t = a at *
  generalize cl 0 1000 p = b at *
  refine ⟨Int.mul_nonneg h1.1 h2.1, ?_⟩
  exact Int.le_trans (Int.mul_le_mul h1.2 h2.2 h2.1 (by decide)) (by decide)
theorem v_clock_Widening (p t : Int) : m_clock_Widening p t = some (widening p t) := (flow_eq _ _).trans (by
  simp only [T_clock_Widening, Tr.den, flowJ]
  rw [v_clock_limit _ _ _ (by decide), v_clock_limit _ _ _ (by decide)]
  simp only [Option.bind_some, widening]
  have h := wide_bd p t
  generalize cl 0 1099511627776 t * cl 0 1000 p = q at *
  have hd : (q + 1000000 - 1).tdiv 1000000 = (q + 1000000 - 1) / 1000000 := Int.tdiv_eq_ediv_of_nonneg (by omega)
  rw [w64_of (n := q) (by omega) (by omega), w64_of (n := q + 1000000) (by omega) (by omega), w64_of (n := q + 1000000 - 1) (by omega) (by omega), w64_of (n := (q + 1000000 - 1).tdiv 1000000) (by omega) (by omega), w64_of (by omega) (by omega)])
theorem v_r11_Widening (p t : Int) : m_r11_Widening p t = some (widening p t) := (flow_eq _ _).trans (by
  simp only [T_r11_Widening, Tr.den, flowJ]
  rw [v_r11_limited _ _ _ (by decide), v_r11_limited _ _ _ (by decide)]
  simp only [Option.bind_some, widening]
  have h := wide_bd p t
  generalize cl 0 1099511627776 t * cl 0 1000 p = q at *
  rw [wide_eq q h.1 h.2]
  have hd : q.tdiv 1000000 = q / 1000000 := Int.tdiv_eq_ediv_of_nonneg (by omega)
  rw [w64_of (n := q) (by omega) (by omega), w64_of (n := q.tdiv 1000000) (by omega) (by omega), w64_of (n := q.tdiv 1000000 + 1) (by omega) (by omega)]
  have hb : ∀ a, flow T_r11_Widening (.b1 a) = some (w64 (a + 32)) := fun a => (flow_eq _ _).trans rfl
  simp only [hb]
  by_cases hm : q.tmod 1000000 > 0
  · rw [decide_eq_true hm, if_pos hm, w64_of (n := q.tdiv 1000000 + 1 + 32) (by omega) (by omega)]; rfl
  · rw [decide_eq_false hm, if_neg hm, w64_of (n := q.tdiv 1000000 + 32) (by omega) (by omega)]; rfl)
def windowOf (l : api_Link) : api_Window :=
  if l.Role = 1 then ⟨w64 (l.Anchor - widening (w64 (l.Params.PPM + l.Clock)) (w64 ((w64 (l.Anchor + l.Size)) - l.Sync))), w64 ((w64 (l.Anchor + l.Size)) + widening (w64 (l.Params.PPM + l.Clock)) (w64 ((w64 (l.Anchor + l.Size)) - l.Sync)))⟩ else ⟨l.Anchor, l.Anchor⟩
theorem v_link_Window (l : api_Link) : m_link_Window l = some (windowOf l) := (flow_eq _ _).trans (by
  simp only [T_link_Window, Tr.den, flowJ, v_clock_Widening, Option.bind_some, windowOf]
  by_cases h : l.Role = 1
  · simp [h]
  · rw [show (l.Role != 1) = true by simpa using h]; simp [h])
theorem v_r30_Window (l : api_Link) (hr : l.Role = 0 ∨ l.Role = 1) : m_r30_Window l = some (windowOf l) := (flow_eq _ _).trans (by
  simp only [T_r30_Window, Tr.den, flowJ, v_r11_Widening, Option.bind_some, windowOf]
  rcases hr with h | h <;> simp [h])

/-! ## whether it skips -/
theorem v_arq_Idle (a : api_Arq) : m_arq_Idle a = some ((a.Queue.length : Int) == 0) := (flow_eq _ _).trans rfl
theorem v_r24_Idle (a : api_Arq) : m_r24_Idle a = some ((a.Queue.length : Int) == 0) := (flow_eq _ _).trans rfl
def must (l : api_Listening) (b : Bool) : Bool := l.Full || (b || decide (l.Skipped ≥ l.Latency))
theorem v_latency_Must (l : api_Listening) (b : Bool) : m_latency_Must l b = some (must l b) := (flow_eq _ _).trans (by
  simp only [T_latency_Must, Tr.den, flowJ, must]
  cases l.Full <;> cases b <;> simp
  cases decide (l.Latency ≤ l.Skipped) <;> rfl)
theorem v_r25_Must (l : api_Listening) (b : Bool) : m_r25_Must l b = some (must l b) := (flow_eq _ _).trans (by
  simp only [T_r25_Must, Tr.den, flowJ, must]
  cases l.Full <;> cases b <;> simp)
def skips (l : api_Link) : Bool := l.Reason == 0 && (l.Role == 1 && (l.Begun && (((l.Commands.length : Int) == 0) && (((l.Procs.Pending.length : Int) == 0) && !must l.Listen (!((l.Arq.Queue.length : Int) == 0))))))
theorem v_link_Skips (l : api_Link) : m_link_Skips l = some (skips l) := (flow_eq _ _).trans (by
  have h1 : flow T_link_Skips (.b1 l) = some (((l.Commands.length : Int) == 0) && (((l.Procs.Pending.length : Int) == 0) && !must l.Listen (!((l.Arq.Queue.length : Int) == 0)))) := (flow_eq _ _).trans (by
    simp only [T_link_Skips, Tr.den, flowJ, v_arq_Idle, v_latency_Must, Option.bind_some]
    cases ((l.Commands.length : Int) == 0) <;> cases ((l.Procs.Pending.length : Int) == 0) <;> rfl)
  simp only [T_link_Skips, Tr.den, flowJ, h1, skips, bne]
  cases (l.Reason == 0) <;> cases (l.Role == 1) <;> cases l.Begun <;> rfl)
theorem v_r30_Skips (l : api_Link) : m_r30_Skips l = some (skips l) := (flow_eq _ _).trans (by
  simp only [T_r30_Skips, Tr.den, flowJ, v_r24_Idle, v_r25_Must, Option.bind_some, skips]
  cases (l.Reason == 0) <;> cases (l.Role == 1) <;> cases l.Begun <;> cases ((l.Commands.length : Int) == 0) <;> cases ((l.Procs.Pending.length : Int) == 0) <;> rfl)
end Go.Proofs.YtjodhcdmhobmoaaGreatDoor

/-
  Channel maps: what their functions come to.
-/
namespace Go.Proofs.YtjodhcdmhobmoaaGreatDoor
open Go Go.Proofs.YtjodhcdmhobmoaaGreatDoor.Le Go.Proofs.YtjodhcdmhobmoaaGreatDoor.Na
set_option linter.unusedVariables false
set_option maxRecDepth 100000

theorem wu64 {n : Nat} (h : n < 18446744073709551616) : IntKind.u64.wrap (n : Int) = n := by
  rw [show IntKind.u64.wrap (n : Int) = (n : Int) % 18446744073709551616 by simp [IntKind.wrap, IntKind.bits, IntKind.signed]]; omega
theorem fd (n k : Nat) : Int.fdiv (n : Int) (2 ^ k) = ((n / 2 ^ k : Nat) : Int) := by
  rw [Int.fdiv_eq_ediv_of_nonneg _ (Int.le_of_lt (Int.pow_pos (by decide)))]
  rw [Int.natCast_ediv]; simp

/-! ## counting -/
def J1 (a : Int) : Int := IntKind.wrap .u64 ((bits .and .u64 (Int.fdiv a (2 ^ (1 : Nat))) (6148914691236517205 : Int)) + (bits .and .u64 a (6148914691236517205 : Int)))
def J2 (a : Int) : Int := IntKind.wrap .u64 ((bits .and .u64 (Int.fdiv a (2 ^ (2 : Nat))) (3689348814741910323 : Int)) + (bits .and .u64 a (3689348814741910323 : Int)))
def J3 (a : Int) : Int := bits .and .u64 (IntKind.wrap .u64 ((Int.fdiv a (2 ^ (4 : Nat))) + a)) (1085102592571150095 : Int)
def J4 (k : Nat) (a : Int) : Int := IntKind.wrap .u64 (a + (Int.fdiv a (2 ^ k)))
theorem j1 (n : Nat) (hn : n < 18446744073709551616) (h : s1 8 n < 18446744073709551616) : J1 (n : Int) = (s1 8 n : Nat) := by
  unfold J1
  rw [fd, show (6148914691236517205 : Int) = ((6148914691236517205 : Nat) : Int) from rfl, u64_and_nat _ _ (by omega) (by decide), u64_and_nat _ _ hn (by decide), ← Int.natCast_add]
  exact wu64 h
theorem j2 (n : Nat) (hn : n < 18446744073709551616) (h : s2 8 n < 18446744073709551616) : J2 (n : Int) = (s2 8 n : Nat) := by
  unfold J2
  rw [fd, show (3689348814741910323 : Int) = ((3689348814741910323 : Nat) : Int) from rfl, u64_and_nat _ _ (by omega) (by decide), u64_and_nat _ _ hn (by decide), ← Int.natCast_add]
  exact wu64 h
theorem j3 (n : Nat) (h : n + n / 16 < 18446744073709551616) : J3 (n : Int) = (s3 8 n : Nat) := by
  unfold J3
  rw [fd, ← Int.natCast_add, wu64 (by omega), show (1085102592571150095 : Int) = ((1085102592571150095 : Nat) : Int) from rfl, u64_and_nat _ _ (by omega) (by decide)]
  rfl
theorem j4 (k n : Nat) (h : n + n / 2 ^ k < 18446744073709551616) : J4 k (n : Int) = ((n + n / 2 ^ k : Nat) : Int) := by
  unfold J4
  rw [fd, ← Int.natCast_add, wu64 h]
theorem v_OnesCount64_J (a : Int) : m_math_bits_OnesCount64 a = some (bits .and .i64 (w64 (J4 32 (J4 16 (J4 8 (J3 (J2 (J1 a))))))) 127) := (flow_eq _ _).trans rfl
theorem w64_mod (n : Int) : w64 n % 128 = n % 128 := by
  simp only [w64, IntKind.wrap, IntKind.signed, IntKind.bits]
  simp
  split <;> omega
theorem v_OnesCount64 (n : Nat) (hn : n < 2 ^ 37) : m_math_bits_OnesCount64 (n : Int) = some ((bc 37 n : Nat) : Int) := by
  rw [v_OnesCount64_J]
  have h := popN_bd n
  simp only at h
  obtain ⟨h1, h2, h3, h4, h5, h6⟩ := h
  rw [j1 _ (by omega) h1, j2 _ h1 (by omega), j3 _ h2, j4 8 _ h4, j4 16 _ h5, j4 32 _ h6]
  rw [← popN_eq n hn, i64_and127, w64_mod]
  rfl

/-! ## which channels -/
theorem hasB_nat (n c : Nat) (hn : n < 18446744073709551616) : hasB (n : Int) c = (n / 2 ^ c % 2 == 1) := by
  unfold hasB
  rw [show ((n : Int) / 2 ^ c) = ((n / 2 ^ c : Nat) : Int) by rw [Int.natCast_ediv]; simp]
  have hb : n / 2 ^ c < 18446744073709551616 := Nat.lt_of_le_of_lt (Nat.div_le_self _ _) hn
  rw [show (1 : Int) = ((1 : Nat) : Int) from rfl, u64_and_nat _ _ hb (by decide), nat_mask1]
  generalize n / 2 ^ c % 2 = x
  by_cases h : x = 1
  · subst h; rfl
  · rw [show (x == 1) = false by simpa using h]; simpa using fun h' => h (by omega)
theorem hasB_mod (n c : Nat) (hc : c < 37) (hn : n < 18446744073709551616) : hasB ((n % 2 ^ 37 : Nat) : Int) c = hasB (n : Int) c := by
  rw [hasB_nat _ _ (by omega), hasB_nat _ _ hn]
  have e : ∀ y, (y / 2 ^ c % 2 == 1) = y.testBit c := fun y => by rw [Nat.testBit_eq_decide_div_mod_eq]; rcases Nat.mod_two_eq_zero_or_one (y / 2 ^ c) with h | h <;> simp [h]
  rw [e, e, Nat.testBit_mod_two_pow]
  simp [hc]
theorem chL_len (n : Nat) (hn : n < 18446744073709551616) (k : Nat) : (chL (n : Int) k).length = bc k n := by
  induction k with
  | zero => rfl
  | succ k ih =>
    rw [chL_succ, List.length_append, ih, hasB_nat _ _ hn]
    simp only [bc]
    rcases Nat.mod_two_eq_zero_or_one (n / 2 ^ k) with h | h <;> simp [h]
theorem and_all (n : Nat) (hn : n < 18446744073709551616) : bits .and .u64 (n : Int) 137438953471 = ((n % 2 ^ 37 : Nat) : Int) := by
  rw [show (137438953471 : Int) = ((137438953471 : Nat) : Int) from rfl, u64_and_nat _ _ hn (by decide), Nat.and_two_pow_sub_one_eq_mod _ 37]
def cnt (m : Int) : Int := ((chL m 37).length : Int)
theorem cnt_bd (m : Int) : 0 ≤ cnt m ∧ cnt m ≤ 37 := by
  unfold cnt chL
  have h1 := List.length_filter_le (hasB m) (List.range 37)
  rw [List.length_range] at h1
  exact ⟨by omega, by omega⟩
theorem v_chanmap_Count (n : Nat) (hn : n < 18446744073709551616) : m_chanmap_Count (n : Int) = some (cnt (n : Int)) := (flow_eq _ _).trans (by
  simp only [T_chanmap_Count, Tr.den, flowJ, and_all n hn]
  rw [v_OnesCount64 _ (Nat.mod_lt _ (by decide))]
  simp only [Option.bind_some, cnt, chL_len n hn, bc_mod 37 37 n (Nat.le_refl _)])
def has (m c : Int) : Bool := decide (0 ≤ c) && (decide (c < 37) && hasB m c.toNat)
theorem v_chanmap_Has (m c : Int) (hm : 0 ≤ m) : m_chanmap_Has m c = some (has m c) := (flow_eq _ _).trans (by
  simp only [T_chanmap_Has, Tr.den, flowJ, has]
  by_cases h0 : c ≥ 0
  · by_cases h1 : c < 37
    · rw [decide_eq_true h0, decide_eq_true h1]
      simp only [cond_true, Bool.true_and, hasB]
      rw [show min c.toNat IntKind.u64.bits = c.toNat from Nat.min_eq_left (by simp [IntKind.bits]; omega)]
      rw [Int.fdiv_eq_ediv_of_nonneg _ (Int.le_of_lt (Int.pow_pos (by decide)))]
    · rw [decide_eq_true h0, decide_eq_false h1]; simp
  · rw [decide_eq_false h0]; simp)
theorem pow_loop (k : Nat) (hk : k ≤ 63) : ∀ j i : Nat, i + j = k → flow T_r01_Power (.b1 k ((2 ^ i : Nat) : Int) i) = some ((2 ^ k : Nat) : Int) := by
  intro j
  induction j with
  | zero =>
    intro i hi
    refine (flow_eq _ _).trans ?_
    simp only [T_r01_Power, Tr.den, flowJ]
    rw [show decide ((i : Int) < (k : Int)) = false by simp; omega, show i = k by omega]
    rfl
  | succ j ih =>
    intro i hi
    refine (flow_eq _ _).trans ?_
    simp only [T_r01_Power, Tr.den, flowJ]
    have hp : 2 ^ (i + 1) ≤ 2 ^ 63 := Nat.pow_le_pow_right (by decide) (by omega)
    rw [show decide ((i : Int) < (k : Int)) = true by simp; omega]
    simp only [cond_true]
    rw [show ((2 ^ i : Nat) : Int) * 2 = ((2 ^ (i + 1) : Nat) : Int) by rw [Nat.pow_succ]; simp, wu64 (by omega), w64_of (by omega) (by omega)]
    exact ih (i + 1) (by omega)
theorem v_r01_Power (k : Nat) (hk : k ≤ 63) : m_r01_Power (k : Int) = some ((2 ^ k : Nat) : Int) := (flow_eq _ _).trans (pow_loop k hk k 0 (by omega))
theorem v_r12_Has (n : Nat) (hn : n < 18446744073709551616) (c : Int) : m_r12_Has (n : Int) c = some (has (n : Int) c) := (flow_eq _ _).trans (by
  simp only [T_r12_Has, Tr.den, flowJ, has]
  by_cases h0 : c ≥ 0
  · by_cases h1 : c ≤ 36
    · rw [decide_eq_true h0, decide_eq_true h1, decide_eq_true (show c < 37 by omega)]
      obtain ⟨k, rfl⟩ : ∃ k : Nat, c = k := ⟨c.toNat, by omega⟩
      have hp : 0 < 2 ^ k := Nat.pow_pos (by decide)
      simp only [cond_true, Bool.true_and, Int.toNat_natCast]
      rw [v_r01_Power k (by omega), hasB_nat _ _ hn]
      simp only [Option.bind_some]
      rw [show (((2 ^ k : Nat) : Int) != 0) = true from bne_iff_ne.mpr (Int.natCast_ne_zero.mpr (Nat.pos_iff_ne_zero.mp hp))]
      simp only [cond_true]
      rw [Int.tdiv_eq_ediv_of_nonneg (Int.natCast_nonneg _), ← Int.natCast_ediv, wu64 (Nat.lt_of_le_of_lt (Nat.div_le_self _ _) hn), Int.tmod_eq_emod_of_nonneg (Int.natCast_nonneg _)]
      generalize n / 2 ^ k = x
      rcases Nat.mod_two_eq_zero_or_one x with h | h
      · rw [show ((x : Int) % 2) = 0 by omega, h]; rfl
      · rw [show ((x : Int) % 2) = 1 by omega, h]; rfl
    · rw [decide_eq_true h0, decide_eq_false h1, decide_eq_false (show ¬ c < 37 by omega)]; simp
  · rw [decide_eq_false h0]; simp)
theorem has_nat (m : Int) (c : Nat) (hc : c < 37) : has m c = hasB m c := by
  unfold has
  rw [decide_eq_true (show (0 : Int) ≤ c by omega), decide_eq_true (show (c : Int) < 37 by omega)]
  rfl

/-! ## the document's list -/
def chI (m : Int) (k : Nat) : List Int := (chL m k).map fun c : Nat => (c : Int)
theorem chL_le (m : Int) (k : Nat) : (chL m k).length ≤ k := by
  have h1 := List.length_filter_le (hasB m) (List.range k)
  rw [List.length_range] at h1
  exact h1
theorem list_loop (n : Nat) (hn : n < 18446744073709551616) : ∀ j i : Nat, i + j = 37 → flow T_r12_List (.b1 (chI n i) n i) = some (chI n 37) := by
  intro j
  induction j with
  | zero =>
    intro i hi
    refine (flow_eq _ _).trans ?_
    simp only [T_r12_List, Tr.den, flowJ]
    rw [show decide ((i : Int) ≤ 36) = false by simp; omega, show i = 37 by omega]
    simp
  | succ j ih =>
    intro i hi
    have hb : ∀ xs : List Int, flow T_r12_List (.b2 xs n i) = flow T_r12_List (.b1 xs n (i + 1 : Nat)) := fun xs => (flow_eq _ _).trans (by
      simp only [T_r12_List, Tr.den, flowJ]
      rw [w64_of (by omega) (by omega)]
      simp)
    have hl : (chI n i).length ≤ 37 := by
      rw [chI, List.length_map]
      have := chL_le n i
      omega
    refine (flow_eq _ _).trans ?_
    simp only [T_r12_List, Tr.den, flowJ]
    rw [show decide ((i : Int) ≤ 36) = true by simp; omega]
    simp only [cond_true, v_r12_Has n hn, Option.bind_some, has_nat (n : Int) i (by omega)]
    have e : chI n (i + 1) = chI n i ++ if hasB n i then [(i : Int)] else [] := by
      simp only [chI, chL_succ, List.map_append]
      split <;> rfl
    have hih := ih (i + 1) (by omega)
    rw [e] at hih
    cases hh : hasB (n : Int) i with
    | true =>
      rw [hh] at hih
      simp only [if_true] at hih
      simp only [cond_true, List.length_cons, List.length_nil, beq_self_eq_true]
      rw [show (decide (((chI n i).length + (0 + 1)) * 8 ≤ lim) && decide ((chI n i).length + (0 + 1) ≤ maxLen)) = true from
        Bool.and_eq_true_iff.mpr ⟨decide_eq_true (Nat.le_trans (show _ ≤ 1000 by omega) (by decide)), decide_eq_true (Nat.le_trans (show _ ≤ 1000 by omega) (by decide))⟩]
      simp only [cond_true, hb]
      exact hih
    | false =>
      rw [hh] at hih
      simp only [Bool.false_eq_true, if_false, List.append_nil] at hih
      simp only [cond_false, beq_self_eq_true, cond_true, hb]
      exact hih
theorem v_r12_List (n : Nat) (hn : n < 18446744073709551616) : m_r12_List (n : Int) = some (chI n 37) := (flow_eq _ _).trans (by
  simp only [T_r12_List, Tr.den, flowJ, List.length_nil, beq_self_eq_true, cond_true]
  exact list_loop n hn 37 0 (by omega))
theorem chI_len (m : Int) : ((chI m 37).length : Int) = cnt m := by unfold chI cnt; rw [List.length_map]
theorem v_r12_Count (n : Nat) (hn : n < 18446744073709551616) : m_r12_Count (n : Int) = some (cnt (n : Int)) := (flow_eq _ _).trans (by
  simp only [T_r12_Count, Tr.den, flowJ, v_r12_List n hn, Option.bind_some, chI_len])
theorem v_r12_Nth (n : Nat) (hn : n < 18446744073709551616) (i : Int) : m_r12_Nth (n : Int) i = some (nthF n i) := (flow_eq _ _).trans (by
  simp only [T_r12_Nth, Tr.den, flowJ, v_r12_List n hn, Option.bind_some, chI_len, nthF]
  by_cases h0 : i < 0
  · rw [decide_eq_true h0, if_neg (by omega)]; rfl
  · by_cases h1 : i ≥ cnt n
    · rw [decide_eq_false h0, decide_eq_true h1, if_neg (by unfold cnt at h1; omega)]; rfl
    · rw [decide_eq_false h0, decide_eq_false h1, if_pos (by unfold cnt at h1; omega)]
      simp only [cond_false]
      refine (flow_eq _ _).trans ?_
      simp only [T_r12_Nth, Tr.den, flowJ, chI_len]
      rw [decide_eq_true (show 0 ≤ i ∧ i < cnt n by omega)]
      simp only [cond_true]
      have hi : i.toNat < (chL n 37).length := by unfold cnt at h1; omega
      rw [show (chI n 37)[i.toNat]? = some (((chL (n : Int) 37)[i.toNat] : Nat) : Int) by
        unfold chI; rw [List.getElem?_map, List.getElem?_eq_getElem hi]; rfl]
      rw [List.getElem?_eq_getElem hi]
      rfl)

/-! ## Check -/
def checkMap (m : Int) : Int := if m ≥ 137438953472 then 5 else if cnt m < 2 then 1 else 0
theorem andNot_all (n : Nat) (hn : n < 18446744073709551616) : (bits .andNot .u64 (n : Int) 137438953471 != 0) = decide ((n : Int) ≥ 137438953472) := by
  rw [show (137438953471 : Int) = ((137438953471 : Nat) : Int) from rfl, u64_andNot_nat _ _ hn (by decide)]
  have e : n &&& (18446744073709551615 - 137438953471) = 2 ^ 37 * (n / 2 ^ 37) := by
    refine Nat.eq_of_testBit_eq fun j => ?_
    rw [Nat.testBit_and, show 18446744073709551615 - 137438953471 = 2 ^ 37 * (2 ^ 27 - 1) + 0 from rfl, Nat.testBit_two_pow_mul_add _ (by decide), show 2 ^ 37 * (n / 2 ^ 37) = 2 ^ 37 * (n / 2 ^ 37) + 0 from rfl, Nat.testBit_two_pow_mul_add _ (by decide)]
    split
    · simp
    · rename_i hj
      rw [Nat.testBit_div_two_pow, Nat.testBit_two_pow_sub_one, show j - 37 + 37 = j by omega]
      by_cases h : j - 37 < 27
      · simp [h]
      · have : n.testBit j = false := Nat.testBit_lt_two_pow (Nat.lt_of_lt_of_le hn (by
          have : 2 ^ 64 ≤ 2 ^ j := Nat.pow_le_pow_right (by decide) (by omega)
          simpa using this))
        simp [this]
  rw [e]
  by_cases h : (n : Int) ≥ 137438953472
  · rw [decide_eq_true h]; simp; omega
  · rw [decide_eq_false h, show n / 2 ^ 37 = 0 by omega]; rfl
theorem v_chanmap_Check (n : Nat) (hn : n < 18446744073709551616) : m_chanmap_Check (n : Int) = some (checkMap n) := (flow_eq _ _).trans (by
  simp only [T_chanmap_Check, Tr.den, flowJ, andNot_all n hn, v_chanmap_Count n hn, Option.bind_some, checkMap]
  by_cases h : (n : Int) ≥ 137438953472
  · rw [decide_eq_true h, if_pos h]; rfl
  · rw [decide_eq_false h, if_neg h]
    by_cases h2 : cnt n < 2
    · rw [decide_eq_true h2, if_pos h2]; rfl
    · rw [decide_eq_false h2, if_neg h2]; rfl)
theorem v_r12_Check (n : Nat) (hn : n < 18446744073709551616) : m_r12_Check (n : Int) = some (checkMap n) := (flow_eq _ _).trans (by
  simp only [T_r12_Check, Tr.den, flowJ]
  rw [show m_r01_Power 37 = some 137438953472 from v_r01_Power 37 (by decide)]
  simp only [v_r12_Count n hn, Option.bind_some, checkMap]
  by_cases h : (n : Int) ≥ 137438953472
  · rw [decide_eq_true h, if_pos h]; rfl
  · rw [decide_eq_false h, if_neg h]
    by_cases h2 : cnt n < 2
    · rw [decide_eq_true h2, if_pos h2]; rfl
    · rw [decide_eq_false h2, if_neg h2]; rfl)

/-! ## Remap -/
def remap (m c : Int) : Int := if has m (cl 0 36 c) then cl 0 36 c else if cnt m = 0 then -1 else nthF m (Int.tmod (cl 0 36 c) (cnt m))
theorem v_chanmap_Nth (m i : Int) : m_chanmap_Nth m i = some (nthF m i) := rfl
theorem v_chanmap_Remap (n : Nat) (hn : n < 18446744073709551616) (c : Int) : m_chanmap_Remap (n : Int) c = some (remap n c) := (flow_eq _ _).trans (by
  simp only [T_chanmap_Remap, Tr.den, flowJ, v_chanmap_Has (n : Int) _ (Int.natCast_nonneg n), v_chanmap_Count n hn, v_chanmap_Nth, Option.bind_some, cl1 0 36 c (by decide), remap]
  cases has (n : Int) (cl 0 36 c) with
  | true => rfl
  | false =>
    by_cases h : cnt n = 0
    · rw [h]; rfl
    · rw [show (cnt (n : Int) == 0) = false by simpa using h, show (cnt (n : Int) != 0) = true by simpa using h]; simp [h])
theorem v_r12_Remap (n : Nat) (hn : n < 18446744073709551616) (c : Int) : m_r12_Remap (n : Int) c = some (remap n c) := (flow_eq _ _).trans (by
  simp only [T_r12_Remap, Tr.den, flowJ, v_r12_Has n hn, v_r12_Count n hn, v_r12_Nth n hn, Option.bind_some, cl2 0 36 c (by decide), remap]
  cases has (n : Int) (cl 0 36 c) with
  | true => rfl
  | false =>
    by_cases h : cnt n = 0
    · rw [h]; rfl
    · rw [show (cnt (n : Int) == 0) = false by simpa using h, show (cnt (n : Int) != 0) = true by simpa using h]; simp [h])
end Go.Proofs.YtjodhcdmhobmoaaGreatDoor

/-
  Hopping: what its functions come to.
-/
namespace Go.Proofs.YtjodhcdmhobmoaaGreatDoor
open Go Go.Proofs.YtjodhcdmhobmoaaGreatDoor.Le Go.Proofs.YtjodhcdmhobmoaaGreatDoor.Na
set_option linter.unusedVariables false
set_option maxRecDepth 100000

theorem wu16 (n : Int) : IntKind.u16.wrap n = n % 65536 := by simp [IntKind.wrap, IntKind.bits, IntKind.signed]
theorem wu32 (n : Int) : IntKind.u32.wrap n = n % 4294967296 := by simp [IntKind.wrap, IntKind.bits, IntKind.signed]

/-! ## bytes turned round -/
theorem rev_step (x a i : Nat) (hx : x < 65536) (ha : a < 65536) (hi : i < 8) : flow T_hop_reverse (.b1 x a i) = flow T_hop_reverse (.b1 x (a ||| ((x >>> i &&& 257) <<< (7 - i)) : Nat) (i + 1 : Nat)) := by
  refine (flow_eq _ _).trans ?_
  simp only [T_hop_reverse, Tr.den, flowJ]
  have hs : (x >>> i &&& 257) <<< (7 - i) < 65536 := by
    have h1 : (x >>> i &&& 257) ≤ 257 := Nat.and_le_right
    rw [Nat.shiftLeft_eq]
    have h2 : 2 ^ (7 - i) ≤ 2 ^ 7 := Nat.pow_le_pow_right (by decide) (by omega)
    exact Nat.lt_of_le_of_lt (Nat.mul_le_mul h1 h2) (by decide)
  rw [show decide ((i : Int) < 8) = true by simp; omega, w64_of (n := 7 - (i : Int)) (by omega) (by omega), show decide ((0 : Int) ≤ (i : Int)) = true by simp, show decide ((0 : Int) ≤ 7 - (i : Int)) = true by simp; omega]
  simp only [cond_true]
  rw [w64_of (n := (i : Int) + 1) (by omega) (by omega), show (i : Int).toNat = i by omega, show (7 - (i : Int)).toNat = 7 - i by omega,
    show min i IntKind.u16.bits = i from Nat.min_eq_left (by simp [IntKind.bits]; omega), show min (7 - i) IntKind.u16.bits = 7 - i from Nat.min_eq_left (by simp [IntKind.bits]; omega), fd]
  rw [show (257 : Int) = ((257 : Nat) : Int) from rfl, u16_and_nat _ _ (Nat.lt_of_le_of_lt (Nat.div_le_self _ _) hx) (by decide), wu16]
  rw [show ((x / 2 ^ i &&& 257 : Nat) : Int) * 2 ^ (7 - i) = (((x >>> i &&& 257) <<< (7 - i) : Nat) : Int) by rw [Nat.shiftLeft_eq, Nat.shiftRight_eq_div_pow]; simp]
  have hm : (((x >>> i &&& 257) <<< (7 - i) : Nat) : Int) % 65536 = (((x >>> i &&& 257) <<< (7 - i) : Nat) : Int) := Int.emod_eq_of_lt (Int.natCast_nonneg _) (Int.ofNat_lt.mpr hs)
  rw [hm, u16_or_nat _ _ ha hs]
  rfl
theorem or_lt16 {a b : Nat} (ha : a < 65536) (hb : b < 65536) : a ||| b < 65536 := Nat.or_lt_two_pow (n := 16) ha hb
theorem sh_lt (x i : Nat) : (x >>> i &&& 257) <<< (7 - i) < 65536 := by
  have h1 : (x >>> i &&& 257) ≤ 257 := Nat.and_le_right
  rw [Nat.shiftLeft_eq]
  have h2 : 2 ^ (7 - i) ≤ 2 ^ 7 := Nat.pow_le_pow_right (by decide) (by omega)
  exact Nat.lt_of_le_of_lt (Nat.mul_le_mul h1 h2) (by decide)
def orR (x : Nat) : Nat → Nat
  | 0 => 0
  | i + 1 => orR x i ||| ((x >>> i &&& 257) <<< (7 - i))
theorem orR_lt (x i : Nat) : orR x i < 65536 := by
  induction i with
  | zero => exact (by decide : (0 : Nat) < 65536)
  | succ i ih => exact or_lt16 ih (sh_lt x i)
theorem rev_loop (x : Nat) (hx : x < 65536) : ∀ j i : Nat, i + j = 8 → flow T_hop_reverse (.b1 x (orR x i : Nat) i) = some ((orR x 8 : Nat) : Int) := by
  intro j
  induction j with
  | zero =>
    intro i hi
    refine (flow_eq _ _).trans ?_
    simp only [T_hop_reverse, Tr.den, flowJ]
    rw [show decide ((i : Int) < 8) = false by simp; omega, show i = 8 by omega]
    rfl
  | succ j ih =>
    intro i hi
    rw [rev_step x _ i hx (orR_lt x i) (by omega)]
    exact ih (i + 1) (by omega)
theorem orR_rot (x : Nat) : orR x 8 = rot x := by
  simp only [orR, rot, Nat.zero_or]
theorem v_hop_reverse (x : Nat) (hx : x < 65536) : m_hop_reverse (x : Int) = some ((rot x : Nat) : Int) := (flow_eq _ _).trans (by
  rw [← orR_rot]
  exact rev_loop x hx 8 0 (by omega))
theorem rvd_loop (k : Nat) : ∀ j i x r : Nat, i + j = 8 → x < 256 → r < 2 ^ i → flow T_r13_reversed (.b1 x r i) = some ((rv j x r : Nat) : Int) := by
  intro j
  induction j with
  | zero =>
    intro i x r hi hx hr
    refine (flow_eq _ _).trans ?_
    simp only [T_r13_reversed, Tr.den, flowJ]
    rw [show decide ((i : Int) < 8) = false by simp; omega]
    rfl
  | succ j ih =>
    intro i x r hi hx hr
    have hr' : r < 256 := Nat.lt_of_lt_of_le hr (Nat.le_trans (Nat.pow_le_pow_right (by decide) (show i ≤ 8 by omega)) (by decide))
    refine (flow_eq _ _).trans ?_
    simp only [T_r13_reversed, Tr.den, flowJ]
    rw [show decide ((i : Int) < 8) = true by simp; omega]
    simp only [cond_true]
    rw [Int.tdiv_eq_ediv_of_nonneg (Int.natCast_nonneg _), Int.tmod_eq_emod_of_nonneg (Int.natCast_nonneg _)]
    rw [w64_of (n := (x : Int) / 2) (by omega) (by omega), w64_of (n := 2 * (r : Int)) (by omega) (by omega), w64_of (n := 2 * (r : Int) + (x : Int) % 2) (by omega) (by omega), w64_of (n := (i : Int) + 1) (by omega) (by omega)]
    exact ih (i + 1) (x / 2) (2 * r + x % 2) (by omega) (by omega) (by rw [Nat.pow_succ]; omega)
theorem v_r13_reversed (x : Nat) (hx : x < 256) : m_r13_reversed (x : Int) = some ((rv 8 x 0 : Nat) : Int) := (flow_eq _ _).trans (rvd_loop 0 8 0 x 0 (by omega) hx (by decide))

/-! ## Random -/
def rnd (c : Nat) : Nat → Nat → Nat
  | 0, a => a ^^^ c
  | k + 1, a => rnd c k ((17 * rot a + c) % 65536)
theorem rnd_lt (c : Nat) (hc : c < 65536) : ∀ k a, a < 65536 → rnd c k a < 65536 := by
  intro k
  induction k with
  | zero => intro a ha; exact Nat.xor_lt_two_pow (n := 16) ha hc
  | succ k ih => intro a ha; exact ih _ (Nat.mod_lt _ (by decide))
theorem hop_loop (c : Nat) (hc : c < 65536) : ∀ j i a : Nat, i + j = 3 → a < 65536 → flow T_hop_Random (.b1 c a i) = some ((rnd c j a : Nat) : Int) := by
  intro j
  induction j with
  | zero =>
    intro i a hi ha
    refine (flow_eq _ _).trans ?_
    simp only [T_hop_Random, Tr.den, flowJ]
    rw [show decide ((i : Int) < 3) = false by simp; omega]
    simp only [cond_false]
    rw [u16_xor_nat _ _ ha hc]
    rfl
  | succ j ih =>
    intro i a hi ha
    refine (flow_eq _ _).trans ?_
    simp only [T_hop_Random, Tr.den, flowJ]
    rw [show decide ((i : Int) < 3) = true by simp; omega, v_hop_reverse a ha]
    simp only [cond_true, Option.bind_some]
    rw [wu16, wu16, w64_of (by omega) (by omega)]
    have hl := rot_lt a ha
    rw [show (((rot a : Nat) : Int) * 17 % 65536 + (c : Int)) % 65536 = (((17 * rot a + c) % 65536 : Nat) : Int) by omega]
    exact ih (i + 1) _ (by omega) (Nat.mod_lt _ (by decide))
theorem v_hop_Random (c d : Nat) (hc : c < 65536) (hd : d < 65536) : m_hop_Random (c : Int) (d : Int) = some ((rnd d 3 (c ^^^ d) : Nat) : Int) := (flow_eq _ _).trans (by
  simp only [T_hop_Random, Tr.den, flowJ]
  rw [u16_xor_nat _ _ hc hd]
  exact hop_loop d hd 3 0 _ (by omega) (Nat.xor_lt_two_pow (n := 16) hc hd))
theorem r13_loop (c : Nat) (hc : c < 65536) : ∀ j i a : Nat, i + j = 3 → a < 65536 → flow T_r13_Random (.b1 c a i) = some ((rnd c j a : Nat) : Int) := by
  intro j
  induction j with
  | zero =>
    intro i a hi ha
    refine (flow_eq _ _).trans ?_
    simp only [T_r13_Random, Tr.den, flowJ]
    rw [show decide ((i : Int) < 3) = false by simp; omega]
    simp only [cond_false]
    rw [u16_xor_nat _ _ ha hc]
    rfl
  | succ j ih =>
    intro i a hi ha
    refine (flow_eq _ _).trans ?_
    simp only [T_r13_Random, Tr.den, flowJ]
    rw [show decide ((i : Int) < 3) = true by simp; omega, w64_of (n := (a : Int)) (by omega) (by omega), w64_of (n := (c : Int)) (by omega) (by omega)]
    rw [Int.tdiv_eq_ediv_of_nonneg (Int.natCast_nonneg _), Int.tmod_eq_emod_of_nonneg (Int.natCast_nonneg _), w64_of (n := (a : Int) / 256) (by omega) (by omega)]
    rw [show (a : Int) / 256 = ((a / 256 : Nat) : Int) by omega, show (a : Int) % 256 = ((a % 256 : Nat) : Int) by omega, v_r13_reversed _ (by omega), v_r13_reversed _ (by omega)]
    simp only [cond_true, Option.bind_some]
    have hl := rot_lt a ha
    have hb1 := (rot_lo (a % 256) (Nat.mod_lt _ (by omega))).2.2
    have hb2 := (rot_lo (a / 256) (by omega)).2.2
    have he := rot_eq a ha
    generalize rv 8 (a / 256) 0 = h1 at *
    generalize rv 8 (a % 256) 0 = h2 at *
    rw [w64_of (n := 256 * (h1 : Int)) (by omega) (by omega), w64_of (n := 256 * (h1 : Int) + (h2 : Int)) (by omega) (by omega), w64_of (n := 17 * (256 * (h1 : Int) + (h2 : Int))) (by omega) (by omega), w64_of (n := 17 * (256 * (h1 : Int) + (h2 : Int)) + c) (by omega) (by omega), Int.tmod_eq_emod_of_nonneg (by omega), wu16, w64_of (n := (i : Int) + 1) (by omega) (by omega)]
    rw [show (17 * (256 * (h1 : Int) + (h2 : Int)) + c) % 65536 % 65536 = (((17 * rot a + c) % 65536 : Nat) : Int) by omega]
    exact ih (i + 1) _ (by omega) (Nat.mod_lt _ (by decide))
theorem v_r13_Random (c d : Nat) (hc : c < 65536) (hd : d < 65536) : m_r13_Random (c : Int) (d : Int) = some ((rnd d 3 (c ^^^ d) : Nat) : Int) := (flow_eq _ _).trans (by
  simp only [T_r13_Random, Tr.den, flowJ]
  rw [u16_xor_nat _ _ hc hd]
  exact r13_loop d hd 3 0 _ (by omega) (Nat.xor_lt_two_pow (n := 16) hc hd))
def ident (a : Nat) : Nat := (a / 65536) ^^^ (a % 65536)
theorem ident_lt (a : Nat) (ha : a < 4294967296) : ident a < 65536 := Nat.xor_lt_two_pow (n := 16) (by omega) (by omega)
theorem v_hop_Ident (a : Nat) (ha : a < 4294967296) : m_hop_Ident (a : Int) = some ((ident a : Nat) : Int) := (flow_eq _ _).trans (by
  simp only [T_hop_Ident, Tr.den, flowJ]
  rw [fd, wu16, wu16, show ((a / 2 ^ 16 : Nat) : Int) % 65536 = ((a / 65536 : Nat) : Int) by omega, show (a : Int) % 65536 = ((a % 65536 : Nat) : Int) by omega, u16_xor_nat _ _ (by omega) (by omega)]
  rfl)
theorem v_r13_Ident (a : Nat) (ha : a < 4294967296) : m_r13_Ident (a : Int) = some ((ident a : Nat) : Int) := (flow_eq _ _).trans (by
  simp only [T_r13_Ident, Tr.den, flowJ]
  rw [Int.tdiv_eq_ediv_of_nonneg (Int.natCast_nonneg _), Int.tmod_eq_emod_of_nonneg (Int.natCast_nonneg _), wu16, wu16, wu32, show (a : Int) / 65536 % 4294967296 % 65536 = ((a / 65536 : Nat) : Int) by omega, show (a : Int) % 65536 % 65536 = ((a % 65536 : Nat) : Int) by omega, u16_xor_nat _ _ (by omega) (by omega)]
  rfl)

/-! ## Next -/
def draw (e a : Nat) : Nat := rnd (ident a) 3 (e ^^^ ident a)
theorem draw_lt (e a : Nat) (he : e < 65536) (ha : a < 4294967296) : draw e a < 65536 := rnd_lt _ (ident_lt a ha) 3 _ (Nat.xor_lt_two_pow (n := 16) he (ident_lt a ha))
def mix (m : Int) (e a : Nat) : Int := if has m ((draw e a % 37 : Nat) : Int) then ((draw e a % 37 : Nat) : Int) else nthF m (cnt m * (draw e a : Nat) / 65536)
theorem tm37 (n : Nat) (h : n < 65536) : Int.tmod (w64 (n : Int)) 37 = ((n % 37 : Nat) : Int) := by
  rw [w64_of (by omega) (by omega), Int.tmod_eq_emod_of_nonneg (Int.natCast_nonneg _)]; omega
theorem cd_bd (m : Int) (n : Nat) (h : n < 65536) : 0 ≤ cnt m * (n : Int) ∧ cnt m * (n : Int) ≤ 2424832 := by
  have := cnt_bd m
  refine ⟨Int.mul_nonneg this.1 (by omega), ?_⟩
  exact Int.le_trans (Int.mul_le_mul this.2 (show (n : Int) ≤ 65536 by omega) (by omega) (by decide)) (by decide)
theorem v_hop_Mix (m e a : Nat) (hm : m < 18446744073709551616) (he : e < 65536) (ha : a < 4294967296) : m_hop_Mix (m : Int) (e : Int) (a : Int) = some (mix m e a) := (flow_eq _ _).trans (by
  simp only [T_hop_Mix, Tr.den, flowJ, v_hop_Ident a ha, Option.bind_some, v_hop_Random e _ he (ident_lt a ha), v_chanmap_Has (m : Int) _ (Int.natCast_nonneg m), v_chanmap_Count m hm, v_chanmap_Nth, mix]
  rw [show rnd (ident a) 3 (e ^^^ ident a) = draw e a from rfl]
  have hd := draw_lt e a he ha
  have hc := cd_bd m _ hd
  rw [tm37 _ hd, w64_of (n := ((draw e a : Nat) : Int)) (by omega) (by omega), w64_of (by omega) (by omega), show ((2 : Int) ^ 16) = 65536 from rfl, Int.fdiv_eq_ediv_of_nonneg _ (by decide)]
  cases has (m : Int) ((draw e a % 37 : Nat) : Int) <;> rfl)
theorem v_r13_Mix (m e a : Nat) (hm : m < 18446744073709551616) (he : e < 65536) (ha : a < 4294967296) : m_r13_Mix (m : Int) (e : Int) (a : Int) = some (mix m e a) := (flow_eq _ _).trans (by
  simp only [T_r13_Mix, Tr.den, flowJ, v_r13_Ident a ha, Option.bind_some, v_r13_Random e _ he (ident_lt a ha), v_r12_Has m hm, v_r12_Count m hm, v_r12_Nth m hm, mix]
  rw [show rnd (ident a) 3 (e ^^^ ident a) = draw e a from rfl]
  have hd := draw_lt e a he ha
  have hc := cd_bd m _ hd
  rw [tm37 _ hd, w64_of (n := ((draw e a : Nat) : Int)) (by omega) (by omega), w64_of (n := cnt (m : Int) * ((draw e a : Nat) : Int)) (by omega) (by omega), Int.tdiv_eq_ediv_of_nonneg hc.1, w64_of (by omega) (by omega)]
  cases has (m : Int) ((draw e a % 37 : Nat) : Int) <;> rfl)
def step (l h : Int) : Int := Int.tmod (w64 ((w64 ((Int.tmod l (37 : Int)) + (Int.tmod h (37 : Int)))) + (74 : Int))) (37 : Int)
theorem v_hop_Step (l h : Int) : m_hop_Step l h = some (step l h) := (flow_eq _ _).trans rfl
theorem v_r13_Step (l h : Int) : m_r13_Step l h = some (step l h) := (flow_eq _ _).trans rfl
structure PWF (p : api_ConnParams) : Prop where
  acc : 0 ≤ p.Access ∧ p.Access < 4294967296
  map : 0 ≤ p.Map ∧ p.Map < 18446744073709551616
def nextC (p : api_ConnParams) (e : Nat) (l : Int) : Int × Int :=
  if p.Algorithm = 2 then (mix p.Map e p.Access.toNat, ((draw e p.Access.toNat % 37 : Nat) : Int)) else (remap p.Map (step l p.Hop), step l p.Hop)
theorem v_hop_Next (p : api_ConnParams) (hp : PWF p) (e : Nat) (he : e < 65536) (l : Int) : m_hop_Next p (e : Int) l = some (nextC p e l) := (flow_eq _ _).trans (by
  obtain ⟨a, ha⟩ : ∃ a : Nat, p.Access = a := ⟨p.Access.toNat, by have := hp.acc; omega⟩
  obtain ⟨m, hm⟩ : ∃ m : Nat, p.Map = m := ⟨p.Map.toNat, by have := hp.map; omega⟩
  have h1 := hp.acc
  have h2 := hp.map
  simp only [T_hop_Next, Tr.den, flowJ, nextC, ha, hm, Int.toNat_natCast] at *
  rw [v_hop_Ident a (by omega)]
  simp only [Option.bind_some]
  rw [v_hop_Random e _ he (ident_lt a (by omega)), v_hop_Mix m e a (by omega) he (by omega), v_hop_Step]
  simp only [Option.bind_some]
  rw [v_chanmap_Remap m (by omega)]
  rw [show rnd (ident a) 3 (e ^^^ ident a) = draw e a from rfl]
  have hd := draw_lt e a he (by omega)
  by_cases h : p.Algorithm = 2
  · rw [h, show Int.tmod ((draw e a : Nat) : Int) 37 = ((draw e a % 37 : Nat) : Int) by rw [Int.tmod_eq_emod_of_nonneg (Int.natCast_nonneg _)]; omega, w64_of (by omega) (by omega)]; rfl
  · rw [show (p.Algorithm == 2) = false by simpa using h, if_neg h]; rfl)
theorem v_r13_Next (p : api_ConnParams) (hp : PWF p) (e : Nat) (he : e < 65536) (l : Int) : m_r13_Next p (e : Int) l = some (nextC p e l) := (flow_eq _ _).trans (by
  obtain ⟨a, ha⟩ : ∃ a : Nat, p.Access = a := ⟨p.Access.toNat, by have := hp.acc; omega⟩
  obtain ⟨m, hm⟩ : ∃ m : Nat, p.Map = m := ⟨p.Map.toNat, by have := hp.map; omega⟩
  have h1 := hp.acc
  have h2 := hp.map
  simp only [T_r13_Next, Tr.den, flowJ, nextC, ha, hm, Int.toNat_natCast] at *
  rw [v_r13_Ident a (by omega), v_r13_Mix m e a (by omega) he (by omega), v_r13_Step]
  simp only [Option.bind_some]
  rw [v_r13_Random e _ he (ident_lt a (by omega)), v_r12_Remap m (by omega)]
  simp only [Option.bind_some]
  rw [show rnd (ident a) 3 (e ^^^ ident a) = draw e a from rfl]
  have hd := draw_lt e a he (by omega)
  by_cases h : p.Algorithm = 2
  · rw [h, tm37 _ hd]; rfl
  · rw [show (p.Algorithm == 2) = false by simpa using h, if_neg h]; rfl)
end Go.Proofs.YtjodhcdmhobmoaaGreatDoor

/-
  A new link: the program's and the document's.
-/
namespace Go.Proofs.YtjodhcdmhobmoaaGreatDoor
open Go Go.Proofs.YtjodhcdmhobmoaaGreatDoor.Le Go.Proofs.YtjodhcdmhobmoaaGreatDoor.Na
set_option linter.unusedVariables false
set_option maxRecDepth 100000

/-! ## Check -/
def checkAlg (p : api_ConnParams) : Int := if p.Algorithm ≠ 1 ∧ p.Algorithm ≠ 2 then 12 else 0
def checkP (p : api_ConnParams) : Int :=
  if p.Access = 0 ∨ p.Access = 2391391958 then 1 else if p.Init ≥ 16777216 then 5
  else if checkUp p.Update ≠ 0 then checkUp p.Update else if checkMap p.Map ≠ 0 then checkMap p.Map
  else if !(inB p.Hop 5 16 && inB p.PPM 0 500) then 5 else checkAlg p
theorem algC (p : api_ConnParams) : (bif p.Algorithm != 1 then bif p.Algorithm != 2 then some 12 else some 0 else some (0 : Int)) = some (checkAlg p) := by
  unfold checkAlg
  by_cases h1 : p.Algorithm = 1
  · simp [h1]
  · by_cases h2 : p.Algorithm = 2
    · simp [h2]
    · rw [show (p.Algorithm != 1) = true by simpa using h1, show (p.Algorithm != 2) = true by simpa using h2, if_pos ⟨h1, h2⟩]; rfl
theorem v_connect_Check (p : api_ConnParams) (hp : PWF p) : m_connect_Check p = some (checkP p) := (flow_eq _ _).trans (by
  have h1 : flow T_connect_Check (.b1 p) = some (if p.Init ≥ 16777216 then 5
      else if checkUp p.Update ≠ 0 then checkUp p.Update else if checkMap p.Map ≠ 0 then checkMap p.Map
      else if !(inB p.Hop 5 16 && inB p.PPM 0 500) then 5 else checkAlg p) := (flow_eq _ _).trans (by
    obtain ⟨m, hm⟩ : ∃ m : Nat, p.Map = m := ⟨p.Map.toNat, by have := hp.map; omega⟩
    have hm2 := hp.map
    simp only [T_connect_Check, Tr.den, flowJ, v_connect_CheckUpdate, Option.bind_some]
    rw [hm, v_chanmap_Check m (by omega), v_connect_within _ (by simp)]
    simp only [List.all_cons, List.all_nil, inSpan, Bool.and_true, Option.bind_some, List.length_cons, List.length_nil, algC]
    rw [show (decide (5 ≤ p.Hop) && decide (p.Hop ≤ 16)) = inB p.Hop 5 16 from rfl, show (decide (0 ≤ p.PPM) && decide (p.PPM ≤ 500)) = inB p.PPM 0 500 from rfl]
    by_cases h1 : p.Init ≥ 16777216
    · rw [decide_eq_true h1, if_pos h1]; rfl
    · rw [decide_eq_false h1, if_neg h1]
      by_cases h2 : checkUp p.Update = 0
      · rw [h2, if_neg (by simp)]
        by_cases h3 : checkMap (m : Int) = 0
        · rw [h3, if_neg (by simp)]
          cases (inB p.Hop 5 16 && inB p.PPM 0 500) <;> rfl
        · rw [show (checkMap (m : Int) != 0) = true by simpa using h3, if_pos h3]; rfl
      · rw [show (checkUp p.Update != 0) = true by simpa using h2, if_pos h2]; rfl)
  simp only [T_connect_Check, Tr.den, flowJ, h1, checkP]
  by_cases h1 : p.Access = 0
  · rw [h1, if_pos (Or.inl rfl)]; rfl
  · by_cases h2 : p.Access = 2391391958
    · rw [h2, if_pos (Or.inr rfl)]; rfl
    · rw [show (p.Access == 0) = false by simpa using h1, show (p.Access == 2391391958) = false by simpa using h2, if_neg (show ¬ (p.Access = 0 ∨ p.Access = 2391391958) from fun h => h.elim h1 h2)]; rfl)
theorem v_r17_Check (p : api_ConnParams) (hp : PWF p) : m_r17_Check p = some (checkP p) := (flow_eq _ _).trans (by
  have h2 : flow T_r17_Check (.b2 p) = some (checkAlg p) := (flow_eq _ _).trans (by simp only [T_r17_Check, Tr.den, flowJ, algC])
  have h1 : flow T_r17_Check (.b1 p) = some (if p.Init ≥ 16777216 then 5
      else if checkUp p.Update ≠ 0 then checkUp p.Update else if checkMap p.Map ≠ 0 then checkMap p.Map
      else if !(inB p.Hop 5 16 && inB p.PPM 0 500) then 5 else checkAlg p) := (flow_eq _ _).trans (by
    obtain ⟨m, hm⟩ : ∃ m : Nat, p.Map = m := ⟨p.Map.toNat, by have := hp.map; omega⟩
    have hm2 := hp.map
    simp only [T_r17_Check, Tr.den, flowJ, v_r17_CheckUpdate, Option.bind_some, h2, v_r17_within]
    rw [hm, v_r12_Check m (by omega)]
    simp only [Option.bind_some]
    rw [show (decide (5 ≤ p.Hop) && decide (p.Hop ≤ 16)) = inB p.Hop 5 16 from rfl, show (decide (0 ≤ p.PPM) && decide (p.PPM ≤ 500)) = inB p.PPM 0 500 from rfl]
    by_cases h1 : p.Init ≥ 16777216
    · rw [decide_eq_true h1, if_pos h1]; rfl
    · rw [decide_eq_false h1, if_neg h1]
      by_cases h2 : checkUp p.Update = 0
      · rw [h2, if_neg (by simp)]
        by_cases h3 : checkMap (m : Int) = 0
        · rw [h3, if_neg (by simp)]
          cases inB p.Hop 5 16 <;> cases inB p.PPM 0 500 <;> rfl
        · rw [show (checkMap (m : Int) != 0) = true by simpa using h3, if_pos h3]; rfl
      · rw [show (checkUp p.Update != 0) = true by simpa using h2, if_pos h2]; rfl)
  simp only [T_r17_Check, Tr.den, flowJ, h1, checkP]
  by_cases h1 : p.Access = 0
  · rw [h1, if_pos (Or.inl rfl)]; rfl
  · by_cases h2 : p.Access = 2391391958
    · rw [h2, if_pos (Or.inr rfl)]; rfl
    · rw [show (p.Access == 0) = false by simpa using h1, show (p.Access == 2391391958) = false by simpa using h2, if_neg (show ¬ (p.Access = 0 ∨ p.Access = 2391391958) from fun h => h.elim h1 h2)]; rfl)

/-! ## New -/
def newLink (role : Int) (p : api_ConnParams) (clock key seed t : Int) : api_Link :=
  ⟨role, p, clock, 0, 0, (firstW t p.Update).Start, if role = 1 then w64 ((firstW t p.Update).End - (firstW t p.Update).Start) else 0, t, t, false, false, false, false, false, z_api_Arq, ⟨cl 0 499 p.Update.Latency, 0, true⟩, newProcs role 63 251, z_api_Session, key, fresh, [], 0, seed⟩
def newL (role : Int) (p : api_ConnParams) (clock key seed t : Int) : api_Link × Int :=
  if role ≠ 0 ∧ role ≠ 1 then (z_api_Link, 1) else if checkP p ≠ 0 then (z_api_Link, checkP p)
  else if clock < 0 ∨ clock > 500 ∨ t < 0 ∨ t > 1099511627776 then (z_api_Link, 5) else (newLink role p clock key seed t, 0)
theorem v_link_New (role : Int) (p : api_ConnParams) (hp : PWF p) (clock key seed t : Int) : m_link_New role p clock key seed t = some (newL role p clock key seed t) := (flow_eq _ _).trans (by
  have h1 : ∀ l, flow T_link_New (.b1 l) = some (z_api_Link, 1) := fun l => (flow_eq _ _).trans rfl
  have h3 : ∀ l, flow T_link_New (.b3 l) = some (z_api_Link, 5) := fun l => (flow_eq _ _).trans rfl
  have h4 : ∀ l, flow T_link_New (.b4 role clock key seed t p l) = some (newLink role p clock key seed t, 0) := fun l => (flow_eq _ _).trans (by
    have h5 : ∀ l k, flow T_link_New (.b5 role p l k) = some ((⟨k.Role, k.Params, k.Clock, k.Event, k.Last, k.Anchor, k.Size, k.Sync, k.Heard, k.Begun, k.Got, k.Good, k.Acked, k.More, z_api_Arq, ⟨cl 0 499 p.Update.Latency, 0, true⟩, newProcs role 63 251, k.Session, k.Key, fresh, [], k.Reason, k.Seed⟩ : api_Link), 0) := fun l k => (flow_eq _ _).trans (by
      simp only [T_link_New, Tr.den, flowJ, v_arq_New, v_latency_New, v_procedure_New, v_assess_Fresh, Option.bind_some])
    simp only [T_link_New, Tr.den, flowJ, v_connect_First, Option.bind_some, h5, newLink]
    by_cases h : role = 1
    · rw [show (role == 1) = true by simpa using h, if_pos h]; rfl
    · rw [show (role == 1) = false by simpa using h, if_neg h]; rfl)
  have h2 : ∀ l, flow T_link_New (.b2 role clock key seed t p l) = some (if checkP p ≠ 0 then (z_api_Link, checkP p)
      else if clock < 0 ∨ clock > 500 ∨ t < 0 ∨ t > 1099511627776 then (z_api_Link, 5) else (newLink role p clock key seed t, 0)) := fun l => (flow_eq _ _).trans (by
    simp only [T_link_New, Tr.den, flowJ, v_connect_Check p hp, Option.bind_some, h3, h4]
    by_cases c0 : checkP p = 0
    · rw [c0, if_neg (by simp)]
      by_cases c1 : clock < 0
      · rw [decide_eq_true c1, if_pos (by simp [c1])]; rfl
      · by_cases c2 : clock > 500
        · rw [decide_eq_false c1, decide_eq_true c2, if_pos (by simp [c2])]; rfl
        · by_cases c3 : t < 0
          · rw [decide_eq_false c1, decide_eq_false c2, decide_eq_true c3, if_pos (by simp [c3])]; rfl
          · by_cases c4 : t > 1099511627776
            · rw [decide_eq_false c1, decide_eq_false c2, decide_eq_false c3, decide_eq_true c4, if_pos (by simp [c4])]; rfl
            · rw [decide_eq_false c1, decide_eq_false c2, decide_eq_false c3, decide_eq_false c4, if_neg (by omega)]; rfl
    · rw [show (checkP p != 0) = true by simpa using c0, if_pos c0]; rfl)
  simp only [T_link_New, Tr.den, flowJ, h1, h2, newL]
  by_cases r0 : role = 0
  · rw [if_neg (show ¬ (role ≠ 0 ∧ role ≠ 1) from fun h => h.1 r0), show (role != 0) = false by simpa using r0]; rfl
  · by_cases r1 : role = 1
    · rw [if_neg (show ¬ (role ≠ 0 ∧ role ≠ 1) from fun h => h.2 r1), show (role != 0) = true by simpa using r0, show (role != 1) = false by simpa using r1]; rfl
    · rw [if_pos (show role ≠ 0 ∧ role ≠ 1 from ⟨r0, r1⟩), show (role != 0) = true by simpa using r0, show (role != 1) = true by simpa using r1]; rfl)
theorem v_r30_New (role : Int) (p : api_ConnParams) (hp : PWF p) (clock key seed t : Int) : m_r30_New role p clock key seed t = some (newL role p clock key seed t) := (flow_eq _ _).trans (by
  have h1 : ∀ l, flow T_r30_New (.b1 l) = some (z_api_Link, 1) := fun l => (flow_eq _ _).trans rfl
  have h3 : ∀ l, flow T_r30_New (.b3 l) = some (z_api_Link, 5) := fun l => (flow_eq _ _).trans rfl
  have h4 : ∀ l, flow T_r30_New (.b4 role clock key seed t p l) = some (newLink role p clock key seed t, 0) := fun l => (flow_eq _ _).trans (by
    simp only [T_r30_New, Tr.den, flowJ, v_r17_First, v_r24_New, v_r25_New, v_r28_New, v_r14_Fresh, Option.bind_some, newLink]
    by_cases h : role = 1
    · rw [show (role == 1) = true by simpa using h, if_pos h]; rfl
    · rw [show (role == 1) = false by simpa using h, if_neg h]; rfl)
  have h2 : ∀ l, flow T_r30_New (.b2 role clock key seed t p l) = some (if checkP p ≠ 0 then (z_api_Link, checkP p)
      else if clock < 0 ∨ clock > 500 ∨ t < 0 ∨ t > 1099511627776 then (z_api_Link, 5) else (newLink role p clock key seed t, 0)) := fun l => (flow_eq _ _).trans (by
    simp only [T_r30_New, Tr.den, flowJ, v_r17_Check p hp, Option.bind_some, h3, h4]
    by_cases c0 : checkP p = 0
    · rw [c0, if_neg (by simp)]
      by_cases c1 : clock < 0
      · rw [decide_eq_true c1, if_pos (by simp [c1])]; rfl
      · by_cases c2 : clock > 500
        · rw [decide_eq_false c1, decide_eq_true c2, if_pos (by simp [c2])]; rfl
        · by_cases c3 : t < 0
          · rw [decide_eq_false c1, decide_eq_false c2, decide_eq_true c3, if_pos (by simp [c3])]; rfl
          · by_cases c4 : t > 1099511627776
            · rw [decide_eq_false c1, decide_eq_false c2, decide_eq_false c3, decide_eq_true c4, if_pos (by simp [c4])]; rfl
            · rw [decide_eq_false c1, decide_eq_false c2, decide_eq_false c3, decide_eq_false c4, if_neg (by omega)]; rfl
    · rw [show (checkP p != 0) = true by simpa using c0, if_pos c0]; rfl)
  simp only [T_r30_New, Tr.den, flowJ, h1, h2, newL]
  by_cases r0 : role = 0
  · rw [if_neg (show ¬ (role ≠ 0 ∧ role ≠ 1) from fun h => h.1 r0), show (role != 0) = false by simpa using r0]; rfl
  · by_cases r1 : role = 1
    · rw [if_neg (show ¬ (role ≠ 0 ∧ role ≠ 1) from fun h => h.2 r1), show (role != 0) = true by simpa using r0, show (role != 1) = false by simpa using r1]; rfl
    · rw [if_pos (show role ≠ 0 ∧ role ≠ 1 from ⟨r0, r1⟩), show (role != 0) = true by simpa using r0, show (role != 1) = true by simpa using r1]; rfl)

/-! ## Same: a link is the same as itself -/
def bytesOK (l : List Int) : Prop := okBytes U 5 l = true
theorem same_packet (p : api_Packet) (h : bytesOK p.Payload) : m_r30_SamePacket p p = some true := (flow_eq _ _).trans (by
  simp only [T_r30_SamePacket, Tr.den, flowJ, beq_self_eq_true, cond_true]
  rw [show okBytes U 5 p.Payload = true from h]
  rfl)
theorem same_packets (xs : List api_Packet) (hl : xs.length < 4611686018427387904) (h : ∀ p ∈ xs, bytesOK p.Payload) : m_r30_SamePackets xs xs = some true := (flow_eq _ _).trans (by
  have step : ∀ j i : Nat, i + j = xs.length → flow T_r30_SamePackets (.b1 xs xs i) = some true := by
    intro j
    induction j with
    | zero =>
      intro i hi
      refine (flow_eq _ _).trans ?_
      simp only [T_r30_SamePackets, Tr.den, flowJ]
      rw [show decide ((i : Int) < (xs.length : Int)) = false by simp; omega]
      rfl
    | succ j ih =>
      intro i hi
      have hx : i < xs.length := by omega
      refine (flow_eq _ _).trans ?_
      simp only [T_r30_SamePackets, Tr.den, flowJ]
      rw [show decide ((i : Int) < (xs.length : Int)) = true by simp; omega, show decide (0 ≤ (i : Int) ∧ (i : Int) < (xs.length : Int)) = true by simp; omega]
      simp only [cond_true, Int.toNat_natCast, List.getElem?_eq_getElem hx, Option.bind_some, same_packet _ (h _ (List.getElem_mem hx)), Bool.not_true, cond_false]
      rw [w64_of (by omega) (by omega)]
      exact ih (i + 1) (by omega)
  simp only [T_r30_SamePackets, Tr.den, flowJ, bne_self_eq_false, cond_false]
  exact step xs.length 0 (by omega))
theorem same_controls (xs : List api_Control) (hl : xs.length < 4611686018427387904) : m_r30_SameControls xs xs = some true := (flow_eq _ _).trans (by
  have step : ∀ j i : Nat, i + j = xs.length → flow T_r30_SameControls (.b1 xs xs i) = some true := by
    intro j
    induction j with
    | zero =>
      intro i hi
      refine (flow_eq _ _).trans ?_
      simp only [T_r30_SameControls, Tr.den, flowJ]
      rw [show decide ((i : Int) < (xs.length : Int)) = false by simp; omega]
      rfl
    | succ j ih =>
      intro i hi
      have hx : i < xs.length := by omega
      refine (flow_eq _ _).trans ?_
      simp only [T_r30_SameControls, Tr.den, flowJ]
      rw [show decide ((i : Int) < (xs.length : Int)) = true by simp; omega, show decide (0 ≤ (i : Int) ∧ (i : Int) < (xs.length : Int)) = true by simp; omega]
      simp only [cond_true, Int.toNat_natCast, List.getElem?_eq_getElem hx, Option.bind_some, beq_self_eq_true, Bool.and_true, Bool.not_true, cond_false]
      rw [w64_of (by omega) (by omega)]
      exact ih (i + 1) (by omega)
  simp only [T_r30_SameControls, Tr.den, flowJ, bne_self_eq_false, cond_false]
  exact step xs.length 0 (by omega))
theorem same_procs (p : api_Procs) (h1 : p.Waiting.length < 4611686018427387904) (h2 : p.Pending.length < 4611686018427387904) : m_r30_SameProcs p p = some true := (flow_eq _ _).trans (by
  have step : ∀ j i : Nat, i + j = p.Pending.length → flow T_r30_SameProcs (.b2 i p p) = some true := by
    intro j
    induction j with
    | zero =>
      intro i hi
      refine (flow_eq _ _).trans ?_
      simp only [T_r30_SameProcs, Tr.den, flowJ]
      rw [show decide ((i : Int) < (p.Pending.length : Int)) = false by simp; omega]
      simp only [beq_self_eq_true, cond_true, cond_false]
    | succ j ih =>
      intro i hi
      have hx : i < p.Pending.length := by omega
      refine (flow_eq _ _).trans ?_
      simp only [T_r30_SameProcs, Tr.den, flowJ]
      rw [show decide ((i : Int) < (p.Pending.length : Int)) = true by simp; omega, show decide (0 ≤ (i : Int) ∧ (i : Int) < (p.Pending.length : Int)) = true by simp; omega]
      simp only [cond_true, Int.toNat_natCast, List.getElem?_eq_getElem hx, Option.bind_some, beq_self_eq_true, Bool.and_true, Bool.not_true, cond_false]
      rw [w64_of (by omega) (by omega)]
      exact ih (i + 1) (by omega)
  simp only [T_r30_SameProcs, Tr.den, flowJ, same_controls _ h1, Option.bind_some, Bool.not_true, cond_false, bne_self_eq_false]
  refine (flow_eq _ _).trans ?_
  exact step p.Pending.length 0 (by omega))
structure LWF (l : api_Link) : Prop where
  tal : l.Tallies.length < 4611686018427387904
  que : l.Arq.Queue.length < 4611686018427387904
  pay : ∀ p ∈ l.Arq.Queue, bytesOK p.Payload
  wai : l.Procs.Waiting.length < 4611686018427387904
  pen : l.Procs.Pending.length < 4611686018427387904
  com : l.Commands.length < 4611686018427387904
theorem same_link (l : api_Link) (h : LWF l) : m_r30_Same l l = some true := (flow_eq _ _).trans (by
  have h4 : flow T_r30_Same (.b4 l l) = some true := (flow_eq _ _).trans (by
    simp only [T_r30_Same, Tr.den, flowJ, same_procs _ h.wai h.pen, same_controls _ h.com, Option.bind_some, beq_self_eq_true, cond_true])
  have h3 : flow T_r30_Same (.b3 l l) = some true := (flow_eq _ _).trans (by
    simp only [T_r30_Same, Tr.den, flowJ, beq_self_eq_true, Bool.and_true, Bool.not_true, cond_false, h4])
  have h2 : flow T_r30_Same (.b2 l l) = some true := (flow_eq _ _).trans (by
    simp only [T_r30_Same, Tr.den, flowJ, beq_self_eq_true, Bool.and_true, Bool.not_true, cond_false, bne_self_eq_false, h3])
  have step : ∀ j i : Nat, i + j = l.Tallies.length → flow T_r30_Same (.b1 i l l) = some true := by
    intro j
    induction j with
    | zero =>
      intro i hi
      refine (flow_eq _ _).trans ?_
      simp only [T_r30_Same, Tr.den, flowJ]
      rw [show decide ((i : Int) < (l.Tallies.length : Int)) = false by simp; omega]
      simp only [beq_self_eq_true, Bool.not_true, cond_false, bne_self_eq_false, same_packets _ h.que h.pay, Option.bind_some, h2]
    | succ j ih =>
      intro i hi
      have hx : i < l.Tallies.length := by omega
      have ht := h.tal
      refine (flow_eq _ _).trans ?_
      simp only [T_r30_Same, Tr.den, flowJ]
      rw [show decide ((i : Int) < (l.Tallies.length : Int)) = true by simp; omega, show decide (0 ≤ (i : Int) ∧ (i : Int) < (l.Tallies.length : Int)) = true by simp; omega]
      simp only [cond_true, Int.toNat_natCast, List.getElem?_eq_getElem hx, Option.bind_some, beq_self_eq_true, Bool.and_true, Bool.not_true, cond_false]
      rw [w64_of (by omega) (by omega)]
      exact ih (i + 1) (by omega)
  simp only [T_r30_Same, Tr.den, flowJ, bne_self_eq_false, cond_false]
  exact step l.Tallies.length 0 (by omega))
theorem lwf_new (role : Int) (p : api_ConnParams) (clock key seed t : Int) : LWF (newL role p clock key seed t).1 := by
  have hz : LWF z_api_Link := { tal := Nat.zero_lt_succ _, que := Nat.zero_lt_succ _, pay := fun _ hp => (List.not_mem_nil hp).elim, wai := Nat.zero_lt_succ _, pen := Nat.zero_lt_succ _, com := Nat.zero_lt_succ _ }
  unfold newL
  split
  · exact hz
  · split
    · exact hz
    · split
      · exact hz
      · exact { tal := by rw [show (newLink role p clock key seed t).Tallies = fresh from rfl, fresh, List.length_replicate]; decide, que := Nat.zero_lt_succ _, pay := fun _ hp => (List.not_mem_nil hp).elim, wai := Nat.zero_lt_succ _, pen := Nat.zero_lt_succ _, com := Nat.zero_lt_succ _ }

/-! ## the law -/
theorem v_law30_lives : m_law30_lives = some true := rfl
theorem t_law30_LinkMakes (role : Int) (p : api_ConnParams) (hp : PWF p) (clock key seed t : Int) : m_law30_LinkMakes role p clock key seed t = some true := (flow_eq _ _).trans (by
  simp only [T_law30_LinkMakes, Tr.den, flowJ, v_link_New _ p hp, v_r30_New _ p hp, Option.bind_some, bne_self_eq_false, cond_false, same_link _ (lwf_new role p clock key seed t), v_law30_lives, Bool.not_true]
  refine (flow_eq _ _).trans ?_
  simp only [T_law30_LinkMakes, Tr.den, flowJ]
  by_cases he : (newL role p clock key seed t).2 = 0
  · rw [he]
    have hr : (newL role p clock key seed t).1 = newLink role p clock key seed t ∧ (role = 0 ∨ role = 1) := by
      unfold newL at he ⊢
      split at he
      · cases he
      · rename_i hr
        rw [if_neg hr]
        split at he
        · rename_i hc; exact absurd he hc
        · rename_i hc
          rw [if_neg hc]
          split at he
          · cases he
          · rename_i hd
            rw [if_neg hd]
            exact ⟨rfl, by omega⟩
    rw [hr.1]
    have hc : m_link_Channel (newLink role p clock key seed t) = some (nextC p 0 0).1 := (flow_eq _ _).trans (by
      simp only [T_link_Channel, Tr.den, flowJ, newLink]
      rw [show (0 : Int) = ((0 : Nat) : Int) from rfl, v_hop_Next p hp 0 (by decide)]
      rfl)
    have hc' : m_r30_Channel (newLink role p clock key seed t) = some (nextC p 0 0).1 := (flow_eq _ _).trans (by
      simp only [T_r30_Channel, Tr.den, flowJ, newLink]
      rw [show (0 : Int) = ((0 : Nat) : Int) from rfl, v_r13_Next p hp 0 (by decide)]
      rfl)
    simp only [hc, hc', v_link_Window, v_r30_Window (newLink role p clock key seed t) hr.2, v_link_Skips, v_r30_Skips, Option.bind_some, beq_self_eq_true, Bool.and_true, cond_true, bne_self_eq_false, cond_false]
  · rw [show ((newL role p clock key seed t).2 != 0) = true by simpa using he]
    rfl)
end Go.Proofs.YtjodhcdmhobmoaaGreatDoor

