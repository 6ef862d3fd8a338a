/-
  Plain arithmetic for the power statements: pw b e is b to the power of e modulo 2147483647.
-/
import Init
namespace Go.Proofs.Ytcjccaonfgcakaa

/-- The modulus. -/
def gp : Nat := 2147483647

def pwN (b e : Nat) : Nat := b ^ e % gp

def pw (b e : Int) : Int := ((pwN b.toNat e.toNat : Nat) : Int)

theorem gp_eq : gp = 2147483647 := rfl

theorem pwN_lt (b e : Nat) : pwN b e < gp := Nat.mod_lt _ (by decide)

theorem pw_bd (b e : Int) : 0 ≤ pw b e ∧ pw b e ≤ 2147483646 := by
  have := pwN_lt b.toNat e.toNat
  rw [gp_eq] at this
  unfold pw
  omega

theorem pwN_mod (b e : Nat) : pwN (b % gp) e = pwN b e := by
  unfold pwN; exact (Nat.pow_mod b e gp).symm

theorem pw_mod (b e : Int) (hb : 0 ≤ b) : pw (b % 2147483647) e = pw b e := by
  unfold pw
  have : (b % 2147483647).toNat = b.toNat % gp := by rw [gp_eq]; omega
  rw [this, pwN_mod]

theorem pwN_add (b m n : Nat) : pwN b (m + n) = pwN b m * pwN b n % gp := by
  unfold pwN; rw [Nat.pow_add, Nat.mul_mod]

theorem pw_add (b m n : Int) (hm : 0 ≤ m) (hn : 0 ≤ n) : pw b (m + n) = pw b m * pw b n % 2147483647 := by
  unfold pw
  have : (m + n).toNat = m.toNat + n.toNat := by omega
  rw [this, pwN_add, gp_eq]; simp

theorem pwN_one (b : Nat) : pwN b 1 = b % gp := by unfold pwN; rw [Nat.pow_one]

theorem pw_one (b : Int) (hb : 0 ≤ b) : pw b 1 = b % 2147483647 := by
  unfold pw
  have : (1 : Int).toNat = 1 := rfl
  rw [this, pwN_one, gp_eq]; omega

theorem pwN_zero (b : Nat) : pwN b 0 = 1 := by unfold pwN; rw [Nat.pow_zero]; rfl

theorem pw_zero (b : Int) : pw b 0 = 1 := by
  unfold pw
  have : (0 : Int).toNat = 0 := rfl
  rw [this, pwN_zero]; rfl

theorem pwN_pwN (b m n : Nat) : pwN (pwN b m) n = pwN b (m * n) := by
  unfold pwN; rw [← Nat.pow_mod, Nat.pow_mul]

theorem pw_pw (b m n : Int) : pw (pw b m) n = pw (pw b n) m := by
  unfold pw
  simp only [Int.toNat_natCast]
  rw [pwN_pwN, pwN_pwN, Nat.mul_comm]

/-- One square: exponent two. -/
theorem pwN_sq (b e : Nat) : pwN b e * pwN b e % gp = pwN b (2 * e) := by
  rw [Nat.two_mul, pwN_add]

/-- What the program's loop holds before round i. -/
def outN (b e i : Nat) : Nat := pwN b (e % 2 ^ i)
def sqN (b i : Nat) : Nat := pwN b (2 ^ i)

theorem outN_zero (b e : Nat) : outN b e 0 = 1 := by
  unfold outN; rw [Nat.pow_zero, Nat.mod_one, pwN_zero]
theorem sqN_zero (b : Nat) : sqN b 0 = b % gp := by unfold sqN; rw [Nat.pow_zero, pwN_one]
theorem sqN_succ (b i : Nat) : sqN b (i + 1) = sqN b i * sqN b i % gp := by
  unfold sqN; rw [pwN_sq, Nat.pow_succ, Nat.mul_comm]
theorem mod_succ (e i : Nat) : e % 2 ^ (i + 1) = e % 2 ^ i + 2 ^ i * (e / 2 ^ i % 2) := by
  rw [Nat.pow_succ, Nat.mod_mul]
theorem outN_one (b e i : Nat) (h : e / 2 ^ i % 2 = 1) : outN b e (i + 1) = outN b e i * sqN b i % gp := by
  unfold outN sqN; rw [mod_succ, h, Nat.mul_one, pwN_add]
theorem outN_none (b e i : Nat) (h : e / 2 ^ i % 2 = 0) : outN b e (i + 1) = outN b e i := by
  unfold outN; rw [mod_succ, h, Nat.mul_zero, Nat.add_zero]
theorem outN_end (b e : Nat) (h : e < 2 ^ 32) : outN b e 32 = pwN b e := by
  unfold outN; rw [Nat.mod_eq_of_lt h]
theorem outN_lt (b e i : Nat) : outN b e i < gp := pwN_lt _ _
theorem sqN_lt (b i : Nat) : sqN b i < gp := pwN_lt _ _

/-- The reference's loop: out times x to the power of e stays the same. -/
theorem ref_odd (o x e p : Nat) (h : o * x ^ e % gp = p) (hb : e % 2 = 1) : (o * x % gp) * (x * x % gp) ^ (e / 2) % gp = p := by
  rw [← h, Nat.mul_mod, Nat.mod_mod, ← Nat.pow_mod, ← Nat.mul_mod]
  have he : e = 2 * (e / 2) + 1 := by omega
  have hx : x ^ e = x ^ (2 * (e / 2)) * x := by
    have := @Nat.pow_succ x (2 * (e / 2))
    rw [← this]; congr 1
  rw [hx, Nat.pow_mul]
  have : x ^ 2 = x * x := Nat.pow_two x
  rw [this]
  congr 1
  rw [Nat.mul_assoc, Nat.mul_comm x]
theorem ref_even (o x e p : Nat) (h : o * x ^ e % gp = p) (hb : e % 2 = 0) : o * (x * x % gp) ^ (e / 2) % gp = p := by
  rw [← h, Nat.mul_mod, ← Nat.pow_mod, ← Nat.mul_mod]
  have he : e = 2 * (e / 2) := by omega
  have hx : x ^ e = x ^ (2 * (e / 2)) := by rw [← he]
  rw [hx, Nat.pow_mul]
  have : x ^ 2 = x * x := Nat.pow_two x
  rw [this]
theorem ref_end (o x p : Nat) (ho : o < gp) (h : o * x ^ 0 % gp = p) : o = p := by
  rw [← h, Nat.pow_zero, Nat.mul_one, Nat.mod_eq_of_lt ho]
theorem ref_start (b e : Nat) : 1 * (b % gp) ^ e % gp = pwN b e := by
  rw [Nat.one_mul, ← Nat.pow_mod]; rfl
end Go.Proofs.Ytcjccaonfgcakaa
