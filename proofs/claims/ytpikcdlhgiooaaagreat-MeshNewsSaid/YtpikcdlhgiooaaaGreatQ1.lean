/-
  Numbers, bytes, loops: plain lemmas.
-/
import Derived.Test.YtpikcdlhgiooaaaGreatEUn
import Derived.Laws.BitsAllLaws
import Derived.Test.YtpikcdlhgiooaaaGreatF1
namespace Go.Proofs.YtpikcdlhgiooaaaGreat
open Go Go.Proofs.YtpikcdlhgiooaaaGreat.Le
set_option linter.unusedVariables false
set_option linter.unusedSimpArgs false
set_option maxRecDepth 100000

theorem w64_of {n : Int} (h : -9223372036854775808 ≤ n) (h' : n ≤ 9223372036854775807) : w64 n = n := by
  simp only [w64, IntKind.wrap, IntKind.signed, IntKind.bits]
  simp
  omega
theorem w64_succ (i : Nat) (h : i < 4611686018427387904) : w64 ((i : Int) + 1) = ((i + 1 : Nat) : Int) := by
  rw [w64_of (by omega) (by omega)]; simp
theorem wu64 {n : Int} (h : 0 ≤ n) (h' : n < 18446744073709551616) : IntKind.wrap .u64 n = n := by rw [IntKind.wrap_u64]; exact Int.emod_eq_of_lt h h'
theorem wu32 {n : Int} (h : 0 ≤ n) (h' : n < 4294967296) : IntKind.wrap .u32 n = n := by rw [IntKind.wrap_u32]; exact Int.emod_eq_of_lt h h'
theorem wu16 {n : Int} (h : 0 ≤ n) (h' : n < 65536) : IntKind.wrap .u16 n = n := by rw [IntKind.wrap_u16]; exact Int.emod_eq_of_lt h h'
theorem wu8 {n : Int} (h : 0 ≤ n) (h' : n < 256) : IntKind.wrap .u8 n = n := by rw [IntKind.wrap_u8]; exact Int.emod_eq_of_lt h h'
theorem r64 (n : Int) : 0 ≤ IntKind.wrap .u64 n ∧ IntKind.wrap .u64 n < 18446744073709551616 := by rw [IntKind.wrap_u64]; omega
theorem r32 (n : Int) : 0 ≤ IntKind.wrap .u32 n ∧ IntKind.wrap .u32 n < 4294967296 := by rw [IntKind.wrap_u32]; omega
theorem r8 (n : Int) : 0 ≤ IntKind.wrap .u8 n ∧ IntKind.wrap .u8 n < 256 := by rw [IntKind.wrap_u8]; omega
theorem b64 (o : BinOp) (a b : Int) : 0 ≤ bits o .u64 a b ∧ bits o .u64 a b < 18446744073709551616 := r64 _
theorem b32 (o : BinOp) (a b : Int) : 0 ≤ bits o .u32 a b ∧ bits o .u32 a b < 4294967296 := r32 _
theorem b8 (o : BinOp) (a b : Int) : 0 ≤ bits o .u8 a b ∧ bits o .u8 a b < 256 := r8 _
theorem wraps_u64 (n : Int) (h₀ : 0 ≤ n) (h₁ : n < 2 ^ 64) : IntKind.u64.wrap n = n := wu64 h₀ h₁
theorem wraps_u32 (n : Int) (h₀ : 0 ≤ n) (h₁ : n < 2 ^ 32) : IntKind.u32.wrap n = n := wu32 h₀ h₁

theorem or_lo (k : IntKind) (j : Nat) (hj : j ≤ k.bits) (hk : ∀ n : Int, 0 ≤ n → n < 2 ^ j → k.wrap n = n) (i : Nat) (hi : i ≤ j)
    (x y : Int) (hy₀ : 0 ≤ y) (hy : y % 2 ^ i = 0) (hy₁ : y < 2 ^ j) (hx₀ : 0 ≤ x) (hx : x < 2 ^ i) : bits .or k x y = x + y := by
  have hx₁ : x < 2 ^ j := Int.lt_of_lt_of_le hx (by exact_mod_cast Nat.pow_le_pow_right (by decide) hi)
  have h := bits_join k j hj hk i y x hy₀ hy hy₁ hx₀ hx hx₁
  obtain ⟨a, rfl⟩ := Int.eq_ofNat_of_zero_le hx₀
  obtain ⟨b, rfl⟩ := Int.eq_ofNat_of_zero_le hy₀
  rw [(bits_nat k j hj hk b a (by exact_mod_cast hy₁) (by exact_mod_cast hx₁)).2] at h
  rw [(bits_nat k j hj hk a b (by exact_mod_cast hx₁) (by exact_mod_cast hy₁)).2, Nat.or_comm, h, Int.add_comm]

theorem lt_dec {i n : Nat} (h : i < n) : decide (i < n) = true := decide_eq_true h
theorem nlt_dec {i n : Nat} (h : n ≤ i) : decide (i < n) = false := decide_eq_false (by omega)
theorem lim_ge : 1000000000 ≤ lim := by decide
theorem maxLen_ge : 1000000000 ≤ maxLen := by decide
theorem app_ok (a b k : Nat) (h : a + b ≤ 1000000) (hk : k ≤ 1000) : (decide ((a + b) * k ≤ lim) && decide (a + b ≤ maxLen)) = true := by
  have h1 : (a + b) * k ≤ 1000000000 := Nat.le_trans (Nat.mul_le_mul h hk) (by decide)
  exact Bool.and_eq_true_iff.mpr ⟨decide_eq_true (Nat.le_trans h1 lim_ge), decide_eq_true (Nat.le_trans (Nat.le_trans h (by decide)) maxLen_ge)⟩
theorem app1_ok (a k : Nat) (h : a ≤ 1000000) (hk : k ≤ 1000) : (decide (a * k ≤ lim) && decide (a ≤ maxLen)) = true := by
  simpa using app_ok 0 a k (by simpa using h) hk

/-- The standing rules of a walk through a block. -/
theorem SL : (∀ n : Nat, (0 : Int) ≤ (n : Int)) ∧ (∀ n m : Nat, ((n : Int) < (m : Int)) ↔ n < m) ∧ (∀ n : Nat, Int.toNat (n : Int) = n) ∧
    (∀ (α : Type) (l : List α) (i : Nat) (h : i < l.length), l[i]? = some l[i]) ∧ (∀ (α : Type) [BEq α] [ReflBEq α] (a : α), (a == a) = true) ∧
    (∀ a : Bool, (a && true) = a) ∧ (∀ a : Bool, (true && a) = a) ∧ (∀ (α : Type) (a b : List α), (a ++ b).length = a.length + b.length) ∧ (∀ (α : Type) (a : List α), [] ++ a = a) ∧ (∀ n : Nat, 0 + n = n) ∧
    (∀ a b k : Nat, a + b ≤ 1000000 → k ≤ 1000 → (decide ((a + b) * k ≤ lim) && decide (a + b ≤ maxLen)) = true) ∧ (∀ a k : Nat, a ≤ 1000000 → k ≤ 1000 → (decide (a * k ≤ lim) && decide (a ≤ maxLen)) = true) ∧
    (∀ i : Nat, i < 4611686018427387904 → w64 ((i : Int) + 1) = ((i + 1 : Nat) : Int)) ∧ (∀ i n : Nat, i < n → decide (i < n) = true) ∧ (∀ i n : Nat, n ≤ i → decide (i < n) = false) :=
  ⟨Int.natCast_nonneg, @Int.ofNat_lt, Int.toNat_natCast, fun _ _ _ h => List.getElem?_eq_getElem h, fun _ _ _ a => beq_self_eq_true a, Bool.and_true, Bool.true_and, fun _ _ _ => List.length_append, fun _ a => List.nil_append a, Nat.zero_add, app_ok, app1_ok, w64_succ, fun _ _ h => lt_dec h, fun _ _ h => nlt_dec h⟩

theorem SM : (∀ (α β : Type) (a : α) (f : α → Option β), (some a).bind f = f a) ∧ (decide True = true) ∧ (decide False = false) ∧ (∀ (α : Type) (a b : α), cond true a b = a) ∧ (∀ (α : Type) (a b : α), cond false a b = b) ∧
    (∀ p : Prop, (True ∧ p) = p) ∧ (∀ p : Prop, (p ∧ True) = p) ∧ (∀ α : Type, ([] : List α).length = 0) ∧ (∀ (α : Type) (a : α) (l : List α), (a :: l).length = l.length + 1) ∧ ((!true) = false) ∧ ((!false) = true) :=
  ⟨fun _ _ _ _ => rfl, rfl, rfl, fun _ _ _ => rfl, fun _ _ _ => rfl, true_and, and_true, fun _ => rfl, fun _ _ _ => rfl, rfl, rfl⟩
/-- A loop over a list, as a flow has it. -/
theorem loop_list {S R α : Type} (F : S → Int → Option R) (xs : List α) (step : S → α → S) (fin : S → Option R) (Inv : Nat → S → Prop)
    (hstep : ∀ (i : Nat) s (h : i < xs.length), Inv i s → F s i = F (step s xs[i]) ((i + 1 : Nat) : Int) ∧ Inv (i + 1) (step s xs[i]))
    (hfin : ∀ s, Inv xs.length s → F s (xs.length : Int) = fin s) (s : S) (h0 : Inv 0 s) : F s 0 = fin (xs.foldl step s) ∧ Inv xs.length (xs.foldl step s) := by
  have key : ∀ (ys zs : List α) (s : S), xs = ys ++ zs → Inv ys.length s → F s (ys.length : Int) = fin (zs.foldl step s) ∧ Inv xs.length (zs.foldl step s) := by
    intro ys zs
    induction zs generalizing ys with
    | nil =>
      intro s hx hi
      rw [List.append_nil] at hx
      subst hx
      exact ⟨hfin s hi, hi⟩
    | cons z zs ih =>
      intro s hx hi
      have hl : ys.length < xs.length := by rw [hx]; simp
      have hz : xs[ys.length] = z := by simp [hx]
      obtain ⟨h1, h2⟩ := hstep ys.length s hl hi
      rw [hz] at h1 h2
      rw [h1]
      have := ih (ys ++ [z]) (step s z) (by simp [hx]) (by simpa using h2)
      simpa using this
  exact key [] xs s rfl h0

theorem foldl_app {α β : Type} (f : α → List β) (xs : List α) (s : List β) : xs.foldl (fun s x => s ++ f x) s = s ++ xs.flatMap f := by
  induction xs generalizing s with
  | nil => simp
  | cons x xs ih => simp [List.foldl_cons, ih, List.append_assoc]

/-! ## bytes -/
def Bytes (xs : List Int) : Prop := ∀ x ∈ xs, 0 ≤ x ∧ x < 256
theorem Bytes.nil : Bytes [] := fun _ h => by cases h
theorem Bytes.cons {x : Int} {xs : List Int} (h : 0 ≤ x ∧ x < 256) (hx : Bytes xs) : Bytes (x :: xs) := fun y hy => by
  rcases List.mem_cons.1 hy with rfl | hy
  · exact h
  · exact hx y hy
theorem Bytes.app {xs ys : List Int} (hx : Bytes xs) (hy : Bytes ys) : Bytes (xs ++ ys) := fun y h => (List.mem_append.1 h).elim (hx y) (hy y)
theorem Bytes.sub {xs ys : List Int} (hx : Bytes xs) (h : ∀ y ∈ ys, y ∈ xs) : Bytes ys := fun y hy => hx y (h y hy)
theorem Bytes.take {xs : List Int} (hx : Bytes xs) (n : Nat) : Bytes (xs.take n) := hx.sub fun _ h => List.mem_of_mem_take h
theorem Bytes.drop {xs : List Int} (hx : Bytes xs) (n : Nat) : Bytes (xs.drop n) := hx.sub fun _ h => List.mem_of_mem_drop h
theorem Bytes.get {xs : List Int} (hx : Bytes xs) (i : Nat) (h : i < xs.length) : 0 ≤ xs[i] ∧ xs[i] < 256 := hx _ (List.getElem_mem h)
theorem Bytes.flat {α : Type} (f : α → List Int) (l : List α) (h : ∀ x ∈ l, Bytes (f x)) : Bytes (l.flatMap f) := fun y hy => by
  obtain ⟨x, hx, hy⟩ := List.mem_flatMap.1 hy
  exact h x hx y hy

/-- the number of bytes, the least significant first. -/
def val : List Int → Int
  | [] => 0
  | b :: r => b + 256 * val r
theorem val_rg {xs : List Int} (h : Bytes xs) : 0 ≤ val xs ∧ val xs < 256 ^ xs.length := by
  induction xs with
  | nil => simp [val]
  | cons x xs ih =>
    have h1 := ih fun y hy => h y (List.mem_cons_of_mem _ hy)
    have h2 := h x List.mem_cons_self
    simp only [val, List.length_cons]
    rw [Int.pow_succ]
    omega
theorem val_append (xs : List Int) (ys : List Int) : val (xs ++ ys) = val xs + 256 ^ xs.length * val ys := by
  induction xs with
  | nil => simp [val]
  | cons x xs ih =>
    simp only [List.cons_append, val, ih, List.length_cons]
    rw [Int.pow_succ, Int.mul_add, ← Int.mul_assoc, Int.mul_comm 256 (256 ^ xs.length), Int.add_assoc]
theorem pow256_le {n : Nat} (h : n ≤ 8) : (256 : Int) ^ n ≤ 18446744073709551616 :=
  (by decide : ∀ n : Fin 9, (256 : Int) ^ n.1 ≤ 18446744073709551616) ⟨n, by omega⟩
theorem val_64 {xs : List Int} (h : Bytes xs) (hl : xs.length ≤ 8) : 0 ≤ val xs ∧ val xs < 18446744073709551616 := by
  have h1 := val_rg h
  exact ⟨h1.1, Int.lt_of_lt_of_le h1.2 (pow256_le hl)⟩

/-- the bytes of a number. -/
def num : Nat → Int → List Int
  | 0, _ => []
  | n + 1, v => (v % 256) :: num n (v / 256)
theorem num_len (n : Nat) (v : Int) : (num n v).length = n := by
  induction n generalizing v with
  | zero => rfl
  | succ n ih => simp [num, ih]
theorem num_bytes (n : Nat) (v : Int) : Bytes (num n v) := by
  induction n generalizing v with
  | zero => exact Bytes.nil
  | succ n ih => exact Bytes.cons (by omega) (ih _)
theorem num_snoc (n : Nat) (v : Int) : num (n + 1) v = num n v ++ [v / 256 ^ n % 256] := by
  induction n generalizing v with
  | zero => simp [num]
  | succ n ih =>
    have e : num (n + 2) v = (v % 256) :: num (n + 1) (v / 256) := rfl
    rw [e, ih]
    simp only [num, List.cons_append]
    rw [Int.pow_succ, Int.mul_comm, ← Int.ediv_ediv_of_nonneg (by decide)]
theorem num_take (n m : Nat) (v : Int) (h : n ≤ m) : (num m v).take n = num n v := by
  induction n generalizing m v with
  | zero => simp [num]
  | succ n ih =>
    obtain ⟨m, rfl⟩ : ∃ k, m = k + 1 := ⟨m - 1, by omega⟩
    simp [num, ih m _ (by omega)]
theorem num_mod (n : Nat) (v w : Int) (h : v % 256 ^ n = w % 256 ^ n) : num n v = num n w := by
  induction n generalizing v w with
  | zero => rfl
  | succ n ih =>
    simp only [num]
    have p : (0 : Int) < 256 ^ n := by exact_mod_cast Nat.pow_pos (by decide)
    rw [Int.pow_succ] at h
    have e1 : v % 256 = w % 256 := by
      have a := Int.emod_emod_of_dvd v (⟨256 ^ n, Int.mul_comm _ _⟩ : (256 : Int) ∣ 256 ^ n * 256)
      have b := Int.emod_emod_of_dvd w (⟨256 ^ n, Int.mul_comm _ _⟩ : (256 : Int) ∣ 256 ^ n * 256)
      rw [← a, ← b, h]
    have e2 : v / 256 % 256 ^ n = w / 256 % 256 ^ n := by
      have q : ∀ x : Int, x / 256 % 256 ^ n = x % (256 ^ n * 256) / 256 := by
        intro x
        rw [Int.emod_def x, Int.emod_def (x / 256), Int.mul_comm (256 ^ n) 256, Int.mul_assoc, Int.sub_ediv_of_dvd _ ⟨_, rfl⟩, Int.mul_ediv_cancel_left _ (by decide), Int.ediv_ediv_of_nonneg (by decide)]
      rw [q, q, h]
    rw [e1, ih _ _ e2]
theorem val_num (n : Nat) (v : Int) (h0 : 0 ≤ v) (h : v < 256 ^ n) : val (num n v) = v := by
  induction n generalizing v with
  | zero => simp [num, val] at *; omega
  | succ n ih =>
    simp only [num, val]
    rw [Int.pow_succ] at h
    rw [ih (v / 256) (by omega) (Int.ediv_lt_of_lt_mul (by decide) h)]
    omega
end Go.Proofs.YtpikcdlhgiooaaaGreat

/-
  The keys of the nodes of a plan: that they are there.
-/
namespace Go.Proofs.YtpikcdlhgiooaaaGreat
open Go Go.Proofs.YtpikcdlhgiooaaaGreat.Le
set_option linter.unusedVariables false
set_option linter.unusedSimpArgs false
set_option maxRecDepth 100000

theorem t_r05Low (k i : Int) (h0 : 0 ≤ i) (h8 : i < 8) : ∃ r, m_r05_Low k i = some r := by
  have b1 : ∀ x, ∃ r, flow T_r05_Low (.b1 x) = some r := fun x => ⟨_, flow_eq _ _⟩
  have hi : i = 0 ∨ i = 1 ∨ i = 2 ∨ i = 3 ∨ i = 4 ∨ i = 5 ∨ i = 6 ∨ i = 7 := by omega
  have hj : ∃ x, m_r05_Low k i = flow T_r05_Low (.b1 x) := by
    rcases hi with rfl | rfl | rfl | rfl | rfl | rfl | rfl | rfl <;> exact ⟨_, (flow_eq _ _).trans rfl⟩
  obtain ⟨x, hx⟩ := hj
  obtain ⟨r, hr⟩ := b1 x
  exact ⟨r, hx.trans hr⟩
theorem t_r05Turn7 (x : Int) : ∃ r, m_r05_Turn x 7 = some r := ⟨_, (flow_eq _ _).trans rfl⟩
theorem t_r05Turn16 (x : Int) : ∃ r, m_r05_Turn x 16 = some r := ⟨_, (flow_eq _ _).trans rfl⟩
theorem t_r05Round (k i x : Int) (h0 : 0 ≤ i) (h8 : i < 8) : ∃ r, m_r05_Round k i x = some r := by
  obtain ⟨x1, h1⟩ := t_r05Low k i h0 h8
  obtain ⟨x2, h2⟩ := t_r05Turn7 (IntKind.wrap .u32 (x + x1))
  obtain ⟨x3, h3⟩ := t_r05Turn16 x1
  exact ⟨_, (flow_eq _ _).trans (by simp only [T_r05_Round, DN, SL, SM, h1, h2, h3, Option.bind_some]; rfl)⟩
theorem t_r05Mix1 (k : Int) : ∀ (n : Nat) (i a b : Int), 0 ≤ i → 8 - i ≤ n → ∃ r, flow T_r05_Mix (.b1 k a b i) = some r := by
  intro n
  induction n with
  | zero =>
    intro i a b h0 h8
    have : decide (i < (8 : Int)) = false := by simp; omega
    exact ⟨_, (flow_eq _ _).trans (by simp only [T_r05_Mix, DN, SL, SM, this, cond_false]; rfl)⟩
  | succ n ih =>
    intro i a b h0 h8
    by_cases hi : i < 8
    · obtain ⟨x, hx⟩ := t_r05Round k i b h0 hi
      have hw : w64 (i + 1) = i + 1 := w64_of (by omega) (by omega)
      obtain ⟨r, hr⟩ := ih (i + 1) b (bits .xor .u32 a x) (by omega) (by omega)
      exact ⟨r, (flow_eq _ _).trans (by simp only [T_r05_Mix, DN, SL, SM, decide_eq_true hi, cond_true, hx, Option.bind_some, hw, hr])⟩
    · have : decide (i < (8 : Int)) = false := by simp; omega
      exact ⟨_, (flow_eq _ _).trans (by simp only [T_r05_Mix, DN, SL, SM, this, cond_false]; rfl)⟩
theorem t_r05Mix (k x : Int) : ∃ r, m_r05_Mix k x = some r := by
  obtain ⟨r, hr⟩ := t_r05Mix1 k 8 0 (IntKind.wrap .u32 ((IntKind.wrap .u64 (Int.tdiv x 4294967296)))) (IntKind.wrap .u32 ((Int.tmod x 4294967296))) (by omega) (by omega)
  exact ⟨r, (flow_eq _ _).trans (by simp only [T_r05_Mix, DN, SL, SM, hr])⟩
theorem t_r02Value1 (l : List Int) : ∀ (n : Nat) (i : Int) (a : Int), i < n → i < l.length → -1 ≤ i → i ≤ 1000 → ∃ r, flow T_r02_Value (.b1 l a i) = some r := by
  intro n
  induction n with
  | zero =>
    intro i a h1 h2 h3 h4
    have : decide (i ≥ (0 : Int)) = false := by simp; omega
    exact ⟨_, (flow_eq _ _).trans (by simp only [T_r02_Value, DN, SL, SM, this, cond_false]; rfl)⟩
  | succ n ih =>
    intro i a h1 h2 h3 h4
    by_cases hi : i ≥ 0
    · have hw : w64 (i - 1) = i - 1 := w64_of (by omega) (by omega)
      have hk : kI i l = true := decide_eq_true ⟨hi, h2⟩
      have hg : ∃ x, l[Int.toNat i]? = some x := ⟨_, List.getElem?_eq_getElem (by omega)⟩
      obtain ⟨x, hx⟩ := hg
      obtain ⟨r, hr⟩ := ih (i - 1) (IntKind.wrap .u64 ((IntKind.wrap .u64 (a * 256)) + (IntKind.wrap .u64 (x)))) (by omega) (by omega) (by omega) (by omega)
      exact ⟨r, (flow_eq _ _).trans (by simp only [T_r02_Value, DN, SL, SM, decide_eq_true hi, cond_true, show decide (0 ≤ i ∧ i < (l.length : Int)) = true from hk, hx, Option.bind_some, hw, hr])⟩
    · have : decide (i ≥ (0 : Int)) = false := by simp; omega
      exact ⟨_, (flow_eq _ _).trans (by simp only [T_r02_Value, DN, SL, SM, this, cond_false]; rfl)⟩
theorem t_r02Value (l : List Int) (h : l.length ≤ 1000) : ∃ r, m_r02_Value l = some r := by
  have hw : w64 ((l.length : Int) - 1) = (l.length : Int) - 1 := w64_of (by omega) (by omega)
  obtain ⟨r, hr⟩ := t_r02Value1 l l.length ((l.length : Int) - 1) 0 (by omega) (by omega) (by omega) (by omega)
  exact ⟨r, (flow_eq _ _).trans (by simp only [T_r02_Value, DN, SL, SM, hw, hr])⟩
theorem t_r06Tag1 (k : Int) (l : List Int) (hl : l.length ≤ 1000) : ∀ (n : Nat) (i : Int) (a : Int), l.length - i ≤ n → 0 ≤ i → i ≤ 1008 → ∃ r, flow T_r06_Tag (.b1 k l a i) = some r := by
  intro n
  induction n with
  | zero =>
    intro i a h1 h2 h3
    have : decide (i < (l.length : Int)) = false := by simp; omega
    exact ⟨_, (flow_eq _ _).trans (by simp only [T_r06_Tag, DN, SL, SM, this, cond_false]; rfl)⟩
  | succ n ih =>
    intro i a h1 h2 h3
    by_cases hi : i < l.length
    · have hw : w64 (i + 8) = i + 8 := w64_of (by omega) (by omega)
      have hm : ∃ e : Int, (if (l.length : Int) < i + 8 then (l.length : Int) else i + 8) = e ∧ i ≤ e ∧ e ≤ l.length := by split <;> exact ⟨_, rfl, by omega, by omega⟩
      obtain ⟨e, he, he1, he2⟩ := hm
      obtain ⟨x, hx⟩ := t_r02Value ((l.drop (Int.toNat i)).take ((Int.toNat e) - (Int.toNat i))) (by simp; omega)
      obtain ⟨y, hy⟩ := t_r05Mix k (bits .xor .u64 a x)
      obtain ⟨r, hr⟩ := ih (i + 8) y (by omega) (by omega) (by omega)
      have c1 : decide (0 ≤ e ∧ e ≤ (l.length : Int)) = true := decide_eq_true ⟨by omega, he2⟩
      have c2 : decide (0 ≤ i ∧ i ≤ (↑(Int.toNat e) : Int)) = true := decide_eq_true ⟨h2, by omega⟩
      exact ⟨r, (flow_eq _ _).trans (by simp only [T_r06_Tag, DN, SL, SM, decide_eq_true hi, cond_true, hw, he, c1, c2, hx, hy, Option.bind_some, hr])⟩
    · have : decide (i < (l.length : Int)) = false := by simp; omega
      exact ⟨_, (flow_eq _ _).trans (by simp only [T_r06_Tag, DN, SL, SM, this, cond_false]; rfl)⟩
theorem t_r06Tag (k : Int) (l : List Int) (hl : l.length ≤ 1000) : ∃ r, m_r06_Tag k l = some r := by
  obtain ⟨x, hx⟩ := t_r05Mix k (IntKind.wrap .u64 ((l.length : Int)))
  obtain ⟨r, hr⟩ := t_r06Tag1 k l hl l.length 0 x (by omega) (by omega) (by omega)
  exact ⟨r, (flow_eq _ _).trans (by simp only [T_r06_Tag, DN, SL, SM, hx, Option.bind_some, hr])⟩
theorem okStr5 (st : ByteArray) : okStr U 5 st = true := List.all_eq_true.2 fun b _ => rfl
theorem strLen5 (st : ByteArray) : (strBytes U 5 st).length = st.data.size := by
  unfold strBytes
  have h : ∀ (l : List UInt8), (l.filterMap fun b => cu8.one (SV.si (Ty := Ty) IntKind.u8 (b.toNat : Int))).length = l.length := by
    intro l
    induction l with
    | nil => rfl
    | cons b l ih => exact congrArg (· + 1) ih
  exact (h st.data.toList).trans (by simp)
theorem t_r06Derive (k : Int) (st : ByteArray) (hst : st.data.size ≤ 100) : ∃ r, m_r06_Derive k st [] = some r := by
  obtain ⟨r, hr⟩ := t_r06Tag k ((strBytes U 5 st) ++ [(0 : Int)]) (by rw [List.length_append, strLen5, List.length_singleton]; omega)
  have h1 : flow T_r06_Derive (.b1 k [] ((strBytes U 5 st) ++ [(0 : Int)]) 0) = some r := (flow_eq _ _).trans (by
    simp only [T_r06_Derive, DN, SL, SM, List.length_nil, show decide ((0 : Int) < ((0 : Nat) : Int)) = false from rfl, cond_false, hr, Option.bind_some])
  have c1 : decide (((strBytes U 5 st).length + 1) * 1 ≤ lim) = true := decide_eq_true (by rw [strLen5]; exact Nat.le_trans (show (st.data.size + 1) * 1 ≤ 101 by omega) (by decide))
  have c2 : decide ((strBytes U 5 st).length + 1 ≤ maxLen) = true := decide_eq_true (by rw [strLen5]; exact Nat.le_trans (show st.data.size + 1 ≤ 101 by omega) (by decide))
  have hk : kA ((strBytes U 5 st).length + 1) 1 = true := by simp only [kA, c1, c2, Bool.and_self]
  refine ⟨r, (flow_eq _ _).trans ?_⟩
  simp only [T_r06_Derive, okStr5, DN, SL, SM, c1, c2, Bool.and_self, cond_true, h1]
theorem t_r47Derive (k : Int) : ∃ r, m_r47_Derive k = some r := by
  obtain ⟨x1, h1⟩ := t_r06Derive k ⟨#[110, 105, 100]⟩ (by decide)
  obtain ⟨x2, h2⟩ := t_r06Derive k ⟨#[101, 110, 99, 114, 121, 112, 116]⟩ (by decide)
  obtain ⟨x3, h3⟩ := t_r06Derive k ⟨#[104, 105, 100, 101]⟩ (by decide)
  obtain ⟨x4, h4⟩ := t_r06Derive k ⟨#[98, 101, 97, 99, 111, 110]⟩ (by decide)
  exact ⟨_, (flow_eq _ _).trans (by simp only [T_r47_Derive, DN, SL, SM, h1, h2, h3, h4, Option.bind_some]; rfl)⟩
noncomputable def K0 : api_NetKey := (m_r47_Derive 3).getD z_api_NetKey
theorem v_r47Derive : m_r47_Derive 3 = some K0 := by
  obtain ⟨r, hr⟩ := t_r47Derive 3
  rw [K0, hr]
  rfl
/-- A node of a plan. -/
noncomputable def nodeV (a : Int) (r f : Bool) : api_Node := ⟨a, 1, 2, (⟨0, K0, z_api_NetKey⟩ : api_KeyState), z_api_IVState, 0, r, f, [], [], [], (⟨[], []⟩ : api_Transport), z_api_Friend, z_api_LowPower, [], 0, true⟩
theorem v_r53New (a : Int) (r f : Bool) (h1 : 0 < a) (h2 : a < 32768) : m_r53_New a 1 2 3 r f = some (nodeV a r f, 0) := (flow_eq _ _).trans (by
  have hn : m_r48_Node a = some true := (flow_eq _ _).trans (by simp only [T_r48_Node, DN, SL, SM, decide_eq_true h1, decide_eq_true h2, cond_true])
  simp only [T_r53_New, DN, SL, SM, hn, Option.bind_some, Bool.not_true, cond_false, v_r47Derive]
  rfl)
end Go.Proofs.YtpikcdlhgiooaaaGreat

/-
  The nodes of a plan, copies of nodes that hold no lists, and their equality.
-/
namespace Go.Proofs.YtpikcdlhgiooaaaGreat
open Go Go.Proofs.YtpikcdlhgiooaaaGreat.Le
set_option linter.unusedVariables false
set_option linter.unusedSimpArgs false
set_option maxRecDepth 100000

theorem b00 : decide ((0 : Int) < ((0 : Nat) : Int)) = false := rfl
theorem v_groups0 : m_r53_sameGroups [] [] = some true := by
  have b1 : flow T_r53_sameGroups (.b1 [] [] 0) = some true := (flow_eq _ _).trans (by simp only [T_r53_sameGroups, DN, SL, SM, List.length_nil, b00, cond_false])
  exact (flow_eq _ _).trans (by simp only [T_r53_sameGroups, DN, SL, SM, List.length_nil, bne_self_eq_false, cond_false, b1])
theorem v_timed0 : m_r53_SameTimed [] [] = some true := by
  have b1 : flow T_r53_SameTimed (.b1 [] [] 0) = some true := (flow_eq _ _).trans (by simp only [T_r53_SameTimed, DN, SL, SM, List.length_nil, b00, cond_false])
  exact (flow_eq _ _).trans (by simp only [T_r53_SameTimed, DN, SL, SM, List.length_nil, bne_self_eq_false, cond_false, b1])
theorem v_trans0 : m_r53_sameTransport ⟨[], []⟩ ⟨[], []⟩ = some true := by
  have b4 : flow T_r53_sameTransport (.b4 0 ⟨[], []⟩ ⟨[], []⟩) = some true := (flow_eq _ _).trans (by simp only [T_r53_sameTransport, DN, SL, SM, List.length_nil, b00, cond_false])
  have b2 : flow T_r53_sameTransport (.b2 0 ⟨[], []⟩ ⟨[], []⟩) = some true := (flow_eq _ _).trans (by simp only [T_r53_sameTransport, DN, SL, SM, List.length_nil, b00, cond_false, b4])
  have b1 : flow T_r53_sameTransport (.b1 ⟨[], []⟩ ⟨[], []⟩) = some true := (flow_eq _ _).trans (by simp only [T_r53_sameTransport, DN, SL, SM, b2])
  exact (flow_eq _ _).trans (by simp only [T_r53_sameTransport, DN, SL, SM, List.length_nil, bne_self_eq_false, cond_false, b1])
theorem v_friend0 : m_r53_sameFriend z_api_Friend z_api_Friend = some true := by
  have hq : z_api_Friend.Queue = [] := rfl
  have hs : z_api_Friend.Subs = [] := rfl
  have b2 : flow T_r53_sameFriend (.b2 0 z_api_Friend z_api_Friend) = some true := (flow_eq _ _).trans (by simp only [T_r53_sameFriend, DN, SL, SM, hq, List.length_nil, b00, cond_false])
  have b1 : flow T_r53_sameFriend (.b1 z_api_Friend z_api_Friend) = some true := (flow_eq _ _).trans (by simp only [T_r53_sameFriend, DN, SL, SM, b2])
  exact (flow_eq _ _).trans (by simp only [T_r53_sameFriend, DN, SL, SM, hq, hs, List.length_nil, bne_self_eq_false, beq_self_eq_true, Bool.not_true, cond_false, v_groups0, Option.bind_some, b1])
theorem v_low0 : m_r53_sameLow z_api_LowPower z_api_LowPower = some true := by
  have hs : z_api_LowPower.Subs = [] := rfl
  exact (flow_eq _ _).trans (by simp only [T_r53_sameLow, DN, SL, SM, hs, beq_self_eq_true, cond_true, v_groups0, Option.bind_some])
theorem v_same (a : Int) (r f : Bool) : m_r53_Same (nodeV a r f) (nodeV a r f) = some true := by
  have hc : (nodeV a r f).Cache = [] := rfl
  have hr : (nodeV a r f).Replays = [] := rfl
  have b4 : flow T_r53_Same (.b4 (nodeV a r f) (nodeV a r f)) = some true := (flow_eq _ _).trans (by
    simp only [T_r53_Same, DN, SL, SM, show (nodeV a r f).Groups = [] from rfl, show (nodeV a r f).Transport = ⟨[], []⟩ from rfl, show (nodeV a r f).Friend = z_api_Friend from rfl, show (nodeV a r f).Low = z_api_LowPower from rfl, show (nodeV a r f).Out = [] from rfl,
      v_groups0, v_trans0, v_friend0, v_low0, v_timed0, Option.bind_some, cond_true])
  have b3 : flow T_r53_Same (.b3 0 (nodeV a r f) (nodeV a r f)) = some true := (flow_eq _ _).trans (by
    simp only [T_r53_Same, DN, SL, SM, hr, List.length_nil, b00, bne_self_eq_false, beq_self_eq_true, Bool.and_self, Bool.not_true, cond_false, b4])
  have b2 : flow T_r53_Same (.b2 0 (nodeV a r f) (nodeV a r f)) = some true := (flow_eq _ _).trans (by
    simp only [T_r53_Same, DN, SL, SM, hc, List.length_nil, b00, cond_false, b3])
  have b1 : flow T_r53_Same (.b1 (nodeV a r f) (nodeV a r f)) = some true := (flow_eq _ _).trans (by simp only [T_r53_Same, DN, SL, SM, b2])
  exact (flow_eq _ _).trans (by simp only [T_r53_Same, DN, SL, SM, hc, hr, List.length_nil, bne_self_eq_false, cond_false, b1])

/-! ## copies -/
theorem c_len0 (n : Nat) : ((0 * n ≤ lim) ∧ 0 ≤ maxLen) := ⟨by rw [Nat.zero_mul]; exact Nat.zero_le _, Nat.zero_le _⟩
theorem v_own (a : Int) (r f : Bool) : m_mesh_own (nodeV a r f) = some (nodeV a r f) := by
  have c1 : m_slices_Clone_uint16 [] = some ⟨[]⟩ := if_pos (c_len0 _)
  have c2 : m_slices_Clone_SeqID [] = some ⟨[]⟩ := if_pos (c_len0 _)
  have c3 : m_slices_Clone_Replay [] = some ⟨[]⟩ := if_pos (c_len0 _)
  have c4 : m_slices_Clone_Outgoing [] = some ⟨[]⟩ := if_pos (c_len0 _)
  have c5 : m_slices_Clone_Incoming [] = some ⟨[]⟩ := if_pos (c_len0 _)
  have c6 : m_slices_Clone_Queued [] = some ⟨[]⟩ := if_pos (c_len0 _)
  have c7 : m_slices_Clone_Timed [] = some ⟨[]⟩ := if_pos (c_len0 _)
  have b4 : ∀ z, flow T_mesh_own (.b4 0 0 (nodeV a r f) z) = some (nodeV a r f) := fun z => (flow_eq _ _).trans (by
    simp only [T_mesh_own, DN, SL, SM, show decide ((0 : Int) < 0) = false from rfl, cond_false])
  have b3 : ∀ z, flow T_mesh_own (.b3 0 0 (nodeV a r f) z) = some (nodeV a r f) := fun z => (flow_eq _ _).trans (by
    simp only [T_mesh_own, DN, SL, SM, show decide ((0 : Int) < 0) = false from rfl, cond_false, show (nodeV a r f).Out = [] from rfl, c7, Option.bind_some, List.length_nil]
    exact b4 z)
  have b2 : ∀ z, flow T_mesh_own (.b2 0 0 (nodeV a r f) z) = some (nodeV a r f) := fun z => (flow_eq _ _).trans (by
    simp only [T_mesh_own, DN, SL, SM, show decide ((0 : Int) < 0) = false from rfl, cond_false, show (nodeV a r f).Friend.Subs = [] from rfl, show (nodeV a r f).Friend.Queue = [] from rfl, show (nodeV a r f).Low.Subs = [] from rfl, c1, c6, Option.bind_some, List.length_nil]
    exact b3 z)
  have b1 : ∀ z, flow T_mesh_own (.b1 0 0 (nodeV a r f) z) = some (nodeV a r f) := fun z => (flow_eq _ _).trans (by
    simp only [T_mesh_own, DN, SL, SM, show decide ((0 : Int) < 0) = false from rfl, cond_false, show (nodeV a r f).Transport.In = [] from rfl, List.length_nil]
    exact b2 z)
  exact (flow_eq _ _).trans (by
    simp only [T_mesh_own, DN, SL, SM, show (nodeV a r f).Groups = [] from rfl, show (nodeV a r f).Cache = [] from rfl, show (nodeV a r f).Replays = [] from rfl, show (nodeV a r f).Transport = ⟨[], []⟩ from rfl, c1, c2, c3, c4, c5, Option.bind_some, List.length_nil]
    exact b1 _)
end Go.Proofs.YtpikcdlhgiooaaaGreat

/-
  A mesh of a plan: by the program as by the document.
-/
namespace Go.Proofs.YtpikcdlhgiooaaaGreat
open Go Go.Proofs.YtpikcdlhgiooaaaGreat.Le
set_option linter.unusedVariables false
set_option linter.unusedSimpArgs false
set_option maxRecDepth 100000

theorem loop_stay {R : Type} (F : Int → Option R) (n : Nat) (r : Option R) (hs : ∀ i : Nat, i < n → F i = F ((i + 1 : Nat) : Int)) (he : F (n : Int) = r) : F 0 = r := by
  have key : ∀ d i : Nat, i + d = n → F i = r := by
    intro d
    induction d with
    | zero => intro i hi; rw [show i = n by omega]; exact he
    | succ d ih => intro i hi; exact (hs i (by omega)).trans (ih (i + 1) (by omega))
  exact key n 0 (Nat.zero_add n)
theorem kIn {α : Type} (i : Nat) (l : List α) (h : i < l.length) : kI (i : Int) l = true := by
  simp only [kI]
  exact decide_eq_true ⟨Int.natCast_nonneg i, by exact_mod_cast h⟩
theorem getN {α : Type} (i : Nat) (l : List α) (h : i < l.length) : l[Int.toNat (i : Int)]? = some l[i] := by
  rw [Int.toNat_natCast]; exact List.getElem?_eq_getElem h
theorem ltN (i n : Nat) (h : i < n) : decide ((i : Int) < (n : Int)) = true := decide_eq_true (by exact_mod_cast h)
theorem nltN (n : Nat) : decide ((n : Int) < (n : Int)) = false := decide_eq_false (by omega)
theorem kA1 (n k : Nat) (h : n ≤ 1000000) (hk : k ≤ 1000) : decide (n * k ≤ lim) = true := decide_eq_true (Nat.le_trans (Nat.le_trans (Nat.mul_le_mul h hk) (by decide)) lim_ge)
theorem kA2 (n : Nat) (h : n ≤ 1000000) : decide (n ≤ maxLen) = true := decide_eq_true (Nat.le_trans (Nat.le_trans h (by decide)) maxLen_ge)

/-! ## the nodes -/
noncomputable def ndV (p : wirelesslaw54_Plan) (i : Nat) : api_Node := nodeV ((i : Int) + 50) (p.Relays.getD i false) (decide (i < p.Friends.length) && p.Friends.getD i false)
noncomputable def ndsV (p : wirelesslaw54_Plan) : List api_Node := (List.range p.Relays.length).map (ndV p)
theorem ndsV_len (p : wirelesslaw54_Plan) : (ndsV p).length = p.Relays.length := by simp [ndsV]
theorem v_nodes (p : wirelesslaw54_Plan) (hn : p.Relays.length ≤ 20) : m_law54_Plan_nodes p = some (ndsV p) := (flow_eq _ _).trans (by
  have key : ∀ d i : Nat, i + d = p.Relays.length → flow T_law54_Plan_nodes (.b1 ((List.range i).map (ndV p)) i p) = some (ndsV p) := by
    intro d
    induction d with
    | zero =>
      intro i hi
      obtain rfl : i = p.Relays.length := by omega
      exact (flow_eq _ _).trans (by simp only [T_law54_Plan_nodes, DN, nltN, cond_false]; rfl)
    | succ d ih =>
      intro i hi
      have hi' : i < p.Relays.length := by omega
      have b2 : ∀ f, f = (decide (i < p.Friends.length) && p.Friends.getD i false) → flow T_law54_Plan_nodes (.b2 ((List.range i).map (ndV p)) i f p) = some (ndsV p) := by
        intro f hf
        refine (flow_eq _ _).trans ?_
        have hw : IntKind.wrap .u16 (w64 ((i : Int) + 50)) = (i : Int) + 50 := by rw [w64_of (by omega) (by omega), wu16 (by omega) (by omega)]
        have hl : ((List.range i).map (ndV p)).length = i := by simp
        have he : (List.range i).map (ndV p) ++ [nodeV ((i : Int) + 50) p.Relays[i] f] = (List.range (i + 1)).map (ndV p) := by
          rw [List.range_succ, List.map_append, hf]
          simp [ndV, hi']
        simp only [T_law54_Plan_nodes, DN, kIn i p.Relays hi', getN i p.Relays hi', cond_true, Option.bind_some, hw, v_r53New ((i : Int) + 50) p.Relays[i] f (by omega) (by omega), hl, kA1 (i + 1) 480 (by omega) (by omega), kA2 (i + 1) (by omega), Bool.and_self, w64_succ i (by omega), he]
        exact ih (i + 1) (by omega)
      refine (flow_eq _ _).trans ?_
      by_cases hf : i < p.Friends.length
      · simp only [T_law54_Plan_nodes, DN, ltN i p.Relays.length hi', ltN i p.Friends.length hf, kIn i p.Friends hf, getN i p.Friends hf, cond_true, Option.bind_some]
        exact b2 _ (by simp [hf])
      · have h1 : decide ((i : Int) < (p.Friends.length : Int)) = false := decide_eq_false (by omega)
        simp only [T_law54_Plan_nodes, DN, ltN i p.Relays.length hi', h1, cond_true, cond_false]
        exact b2 _ (by simp [hf])
  simp only [T_law54_Plan_nodes, DN, cond_true]
  exact key p.Relays.length 0 (by omega))
theorem nds_mem {p : wirelesslaw54_Plan} {x : api_Node} (h : x ∈ ndsV p) : ∃ a r f, x = nodeV a r f := by
  obtain ⟨i, _, rfl⟩ := List.mem_map.1 h
  exact ⟨_, _, _, rfl⟩
theorem nds_addr (p : wirelesslaw54_Plan) (i : Nat) (h : i < (ndsV p).length) : (ndsV p)[i].Address = (i : Int) + 50 := by
  simp [ndsV, ndV, nodeV]

/-! ## a copy of a mesh -/
abbrev mkM (N : List api_Node) (L : List api_Pair) : api_Mesh := ⟨N, L, [], 0, 0, [], []⟩
theorem v_fresh (N : List api_Node) (L : List api_Pair) (hN : N.length ≤ 1000) (hL : L.length ≤ 1000) (ho : ∀ x ∈ N, m_mesh_own x = some x) : m_mesh_fresh (mkM N L) = some (mkM N L) := (flow_eq _ _).trans (by
  have c1 : m_slices_Clone_Node N = some ⟨N⟩ := if_pos ⟨of_decide_eq_true (kA1 _ _ (by omega) (by omega)), of_decide_eq_true (kA2 _ (by omega))⟩
  have c2 : m_slices_Clone_Pair L = some ⟨L⟩ := if_pos ⟨of_decide_eq_true (kA1 _ _ (by omega) (by omega)), of_decide_eq_true (kA2 _ (by omega))⟩
  have c3 : m_slices_Clone_Loss [] = some ⟨[]⟩ := if_pos (c_len0 _)
  have c4 : m_slices_Clone_Hop [] = some ⟨[]⟩ := if_pos (c_len0 _)
  have c5 : m_slices_Clone_MeshNote [] = some ⟨[]⟩ := if_pos (c_len0 _)
  have n0 : decide ((0 : Int) < 0) = false := rfl
  have b3 : ∀ z, flow T_mesh_fresh (.b3 0 0 (mkM N L) z) = some (mkM N L) := fun z => (flow_eq _ _).trans (by
    simp only [T_mesh_fresh, DN, n0, cond_false, cond_true])
  have b2 : ∀ z, flow T_mesh_fresh (.b2 0 0 (mkM N L) z) = some (mkM N L) := fun z => (flow_eq _ _).trans (by
    simp only [T_mesh_fresh, DN, n0, cond_false, c5, Option.bind_some, Bool.and_self, cond_true, List.length_nil]
    exact b3 z)
  have b1 := fun z => loop_stay (fun i => flow T_mesh_fresh (.b1 N.length i (mkM N L) z)) N.length (some (mkM N L)) (fun i hi => (flow_eq _ _).trans (by
      simp only [T_mesh_fresh, DN, ltN i N.length hi, kIn i N hi, List.getElem?_eq_getElem hi, cond_true, Option.bind_some, ho _ (List.getElem_mem hi), List.length_set, beq_self_eq_true, Nat.zero_le, decide_true, Bool.and_self, Int.toNat_natCast, List.set_getElem_self, w64_succ i (by omega)]))
    ((flow_eq _ _).trans (by
      simp only [T_mesh_fresh, DN, nltN, cond_false, c2, c3, c4, Option.bind_some, Bool.and_self, cond_true, List.length_nil]
      exact b2 z))
  simp only [T_mesh_fresh, DN, c1, Option.bind_some]
  exact b1 _)

/-! ## new meshes -/
theorem v_New1 (x y : api_Node) : m_mesh_New_1 x y = some ⟨x.Address == y.Address, y⟩ := (flow_eq _ _).trans rfl
theorem v_index (l : List api_Node) (x : api_Node) (hl : l.length ≤ 1000) (h : ∀ y ∈ l, y.Address ≠ x.Address) : m_slices_IndexFunc_Node l x = some ⟨-1, x⟩ := (flow_eq _ _).trans (by
  have b1 := loop_stay (fun i => flow T_slices_IndexFunc_Node (.b1 l l.length i x)) l.length (some ⟨-1, x⟩) (fun i hi => (flow_eq _ _).trans (by
      have hx : (l[i].Address == x.Address) = false := beq_eq_false_iff_ne.2 (h _ (List.getElem_mem hi))
      simp only [T_slices_IndexFunc_Node, DN, ltN i l.length hi, kIn i l hi, getN i l hi, cond_true, Option.bind_some, v_New1, hx, cond_false, w64_succ i (by omega)]))
    ((flow_eq _ _).trans (by simp only [T_slices_IndexFunc_Node, DN, nltN, cond_false]))
  simp only [T_slices_IndexFunc_Node, DN]
  exact b1)
theorem v_contains (l : List api_Node) (x : api_Node) (hl : l.length ≤ 1000) (h : ∀ y ∈ l, y.Address ≠ x.Address) : m_slices_ContainsFunc_Node l x = some ⟨false, x⟩ := (flow_eq _ _).trans (by
  simp only [T_slices_ContainsFunc_Node, DN, v_index l x hl h, Option.bind_some]
  rfl)
structure NodesK (N : List api_Node) : Prop where
  len : N.length ≤ 16
  addr : ∀ (i : Nat) (h : i < N.length), N[i].Address = (i : Int) + 50
  own : ∀ x ∈ N, m_mesh_own x = some x
theorem NodesK.lt {N : List api_Node} (h : NodesK N) (i : Nat) (hi : i < N.length) : 0 < N[i].Address ∧ N[i].Address ≤ 32767 := by
  have := h.addr i hi
  have := h.len
  omega
theorem v_mNode (a : Int) (h1 : 0 < a) (h2 : a ≤ 32767) : m_netpdu_Node a = some true := (flow_eq _ _).trans (by
  simp only [T_netpdu_Node, DN, decide_eq_true (show a > 0 from h1), decide_eq_true h2, cond_true])
theorem v_rNode (a : Int) (h1 : 0 < a) (h2 : a ≤ 32767) : m_r48_Node a = some true := (flow_eq _ _).trans (by
  simp only [T_r48_Node, DN, decide_eq_true h1, decide_eq_true (show a < 32768 by omega), cond_true])
theorem v_new1 {N : List api_Node} (h : NodesK N) (L : List api_Pair) (z : api_Mesh) : flow T_mesh_New (.b1 N L N N.length 0 z) = flow T_mesh_New (.b2 N L L L.length 0 z) := by
  have hlen := h.len
  refine loop_stay (fun i => flow T_mesh_New (.b1 N L N N.length i z)) N.length _ (fun i hi => (flow_eq _ _).trans ?_) ((flow_eq _ _).trans (by simp only [T_mesh_New, DN, nltN, cond_false]))
  have hc : m_slices_ContainsFunc_Node (((N.drop 0).take (i - 0))) N[i] = some ⟨false, N[i]⟩ := v_contains _ _ (by simp; omega) (fun y hy => by
    obtain ⟨k, hk, rfl⟩ := List.getElem_of_mem hy
    simp only [List.length_take, List.length_drop] at hk
    simp only [List.getElem_take, List.getElem_drop]
    rw [h.addr _ (by omega), h.addr i hi]
    omega)
  have hd : decide ((0 : Int) ≤ (i : Int) ∧ (i : Int) ≤ (N.length : Int)) = true := decide_eq_true (by omega)
  simp only [T_mesh_New, DN, ltN i N.length hi, kIn i N hi, List.getElem?_eq_getElem hi, cond_true, cond_false, Option.bind_some, v_mNode _ (h.lt i hi).1 (h.lt i hi).2, Bool.not_true, hd, Int.toNat_natCast, hc, w64_succ i (by omega)]
theorem v_rnew1 {N : List api_Node} (h : NodesK N) (L : List api_Pair) (z : api_Mesh) : flow T_r54_New (.b1 N L 0 z) = flow T_r54_New (.b3 N L 0 z) := by
  have hlen := h.len
  refine loop_stay (fun i => flow T_r54_New (.b1 N L i z)) N.length _ (fun i hi => (flow_eq _ _).trans ?_) ((flow_eq _ _).trans (by simp only [T_r54_New, DN, nltN, cond_false]))
  have b2 := loop_stay (fun k => flow T_r54_New (.b2 N L i k z)) i (flow T_r54_New (.b1 N L ((i + 1 : Nat) : Int) z)) (fun k hk => (flow_eq _ _).trans (by
      have hk' : k < N.length := by omega
      have hx : (N[k].Address == N[i].Address) = false := beq_eq_false_iff_ne.2 (by rw [h.addr k hk', h.addr i hi]; omega)
      simp only [T_r54_New, DN, ltN k i hk, kIn k N hk', getN k N hk', kIn i N hi, getN i N hi, cond_true, Option.bind_some, hx, cond_false, w64_succ k (by omega)]))
    ((flow_eq _ _).trans (by simp only [T_r54_New, DN, nltN, cond_false, w64_succ i (by omega)]))
  simp only [T_r54_New, DN, ltN i N.length hi, kIn i N hi, getN i N hi, cond_true, cond_false, Option.bind_some, v_rNode _ (h.lt i hi).1 (h.lt i hi).2, Bool.not_true]
  exact b2
theorem t_less (a b : api_Pair) : ∃ r, m_mesh_less a b = some r ∧ m_r54_less a b = some r := by
  have h : m_mesh_less a b = cond (decide (a.A < b.A)) (some true) (cond (a.A == b.A) (some (decide (a.B < b.B))) (some false)) := (flow_eq _ _).trans (by simp only [T_mesh_less, DN])
  have h' : m_r54_less a b = m_mesh_less a b := by
    rw [h]
    exact (flow_eq _ _).trans (by simp only [T_r54_less, DN])
  rw [h', h]
  cases decide (a.A < b.A) <;> cases (a.A == b.A) <;> exact ⟨_, rfl, rfl⟩
/-- What a new mesh is. -/
def NewR (N : List api_Node) (L : List api_Pair) (r : api_Mesh × Int) : Prop := r.1 = mkM [] [] ∨ r.1 = mkM N L
theorem v_new2 {N : List api_Node} (h : NodesK N) (L : List api_Pair) (hL : L.length ≤ 300) : ∀ d i : Nat, i + d = L.length → ∃ r, flow T_mesh_New (.b2 N L L L.length i (mkM [] [])) = some r ∧ flow T_r54_New (.b3 N L i (mkM [] [])) = some r ∧ NewR N L r := by
  have hlen := h.len
  intro d
  induction d with
  | zero =>
    intro i hi
    obtain rfl : i = L.length := by omega
    refine ⟨(mkM N L, 0), (flow_eq _ _).trans ?_, (flow_eq _ _).trans ?_, .inr rfl⟩
    · simp only [T_mesh_New, DN, nltN, cond_false, v_fresh N L (by omega) (by omega) h.own, Option.bind_some]
    · simp only [T_r54_New, DN, nltN, cond_false, List.nil_append, Nat.zero_add, kA1 N.length 480 (by omega) (by omega), kA2 N.length (by omega), kA1 L.length 16 (by omega) (by omega), kA2 L.length (by omega), Bool.and_self, cond_true]
  | succ d ih =>
    intro i hi
    have hi' : i < L.length := by omega
    obtain ⟨r, h1, h2, hr⟩ := ih (i + 1) (by omega)
    have e3 : flow T_mesh_New (.b3 (mkM [] [])) = some (mkM [] [], 5) := (flow_eq _ _).trans (by simp only [T_mesh_New, DN])
    have e5 : flow T_mesh_New (.b5 (mkM [] [])) = some (mkM [] [], 13) := (flow_eq _ _).trans (by simp only [T_mesh_New, DN])
    have e6 : flow T_mesh_New (.b6 N L L L.length i (mkM [] [])) = some r := (flow_eq _ _).trans (by simp only [T_mesh_New, DN, w64_succ i (by omega)]; exact h1)
    have f4 : flow T_r54_New (.b4 (mkM [] [])) = some (mkM [] [], 5) := (flow_eq _ _).trans (by simp only [T_r54_New, DN])
    have f6 : flow T_r54_New (.b6 (mkM [] [])) = some (mkM [] [], 13) := (flow_eq _ _).trans (by simp only [T_r54_New, DN])
    have f7 : flow T_r54_New (.b7 N L i (mkM [] [])) = some r := (flow_eq _ _).trans (by simp only [T_r54_New, DN, w64_succ i (by omega)]; exact h2)
    have m4 : ∃ q, flow T_mesh_New (.b4 N L i L L.length i (mkM [] []) L[i]) = some q ∧ flow T_r54_New (.b5 N L i (mkM [] []) L[i]) = some q ∧ NewR N L q := by
      by_cases h0 : i = 0
      · subst h0
        have n0 : decide (((0 : Nat) : Int) > 0) = false := rfl
        refine ⟨r, (flow_eq _ _).trans ?_, (flow_eq _ _).trans ?_, hr⟩
        · simp only [T_mesh_New, DN, n0, cond_false]; exact e6
        · simp only [T_r54_New, DN, n0, cond_false]; exact f7
      · obtain ⟨k, rfl⟩ : ∃ k, i = k + 1 := ⟨i - 1, by omega⟩
        have n0 : decide (((k + 1 : Nat) : Int) > 0) = true := decide_eq_true (by omega)
        have hw : w64 (((k + 1 : Nat) : Int) - 1) = (k : Int) := by rw [w64_of (by omega) (by omega)]; omega
        have hk : k < L.length := by omega
        obtain ⟨b, hb, hb'⟩ := t_less L[k] L[k + 1]
        cases b with
        | true =>
          refine ⟨r, (flow_eq _ _).trans ?_, (flow_eq _ _).trans ?_, hr⟩
          · simp only [T_mesh_New, DN, n0, cond_true, hw, kIn k L hk, getN k L hk, Option.bind_some, hb, Bool.not_true, cond_false]; exact e6
          · simp only [T_r54_New, DN, n0, cond_true, hw, kIn k L hk, getN k L hk, Option.bind_some, hb', Bool.not_true, cond_false]; exact f7
        | false =>
          refine ⟨(mkM [] [], 13), (flow_eq _ _).trans ?_, (flow_eq _ _).trans ?_, .inl rfl⟩
          · simp only [T_mesh_New, DN, n0, cond_true, hw, kIn k L hk, getN k L hk, Option.bind_some, hb, Bool.not_false]; exact e5
          · simp only [T_r54_New, DN, n0, cond_true, hw, kIn k L hk, getN k L hk, Option.bind_some, hb', Bool.not_false]; exact f6
    obtain ⟨q, q1, q2, hq⟩ := m4
    have hm : flow T_mesh_New (.b2 N L L L.length i (mkM [] [])) = cond (decide (L[i].A < 0)) (some (mkM [] [], 5)) (cond (decide (L[i].A ≥ L[i].B)) (some (mkM [] [], 5)) (cond (decide (L[i].B ≥ (N.length : Int))) (some (mkM [] [], 5)) (some q))) := (flow_eq _ _).trans (by
      simp only [T_mesh_New, DN, ltN i L.length hi', kIn i L hi', getN i L hi', cond_true, Option.bind_some, e3, q1])
    have hd : flow T_r54_New (.b3 N L i (mkM [] [])) = cond (decide (L[i].A < 0)) (some (mkM [] [], 5)) (cond (decide (L[i].B ≤ L[i].A)) (some (mkM [] [], 5)) (cond (decide (L[i].B ≥ (N.length : Int))) (some (mkM [] [], 5)) (some q))) := (flow_eq _ _).trans (by
      simp only [T_r54_New, DN, ltN i L.length hi', kIn i L hi', getN i L hi', cond_true, Option.bind_some, f4, q2])
    have hge : decide (L[i].A ≥ L[i].B) = decide (L[i].B ≤ L[i].A) := rfl
    rw [hm, hd, hge]
    cases decide (L[i].A < 0)
    · cases decide (L[i].B ≤ L[i].A)
      · cases decide (L[i].B ≥ (N.length : Int))
        · exact ⟨q, rfl, rfl, hq⟩
        · exact ⟨_, rfl, rfl, .inl rfl⟩
      · exact ⟨_, rfl, rfl, .inl rfl⟩
    · exact ⟨_, rfl, rfl, .inl rfl⟩
theorem v_new (N : List api_Node) (L : List api_Pair) (hL : L.length ≤ 300) (h : N.length ≤ 16 → NodesK N) : ∃ r, m_mesh_New N L = some r ∧ m_r54_New N L = some r ∧ NewR N L r := by
  by_cases hn : N.length ≤ 16
  · have c : decide ((N.length : Int) > 16) = false := decide_eq_false (by omega)
    obtain ⟨r, h1, h2, hr⟩ := v_new2 (h hn) L hL L.length 0 (by omega)
    refine ⟨r, (flow_eq _ _).trans ?_, (flow_eq _ _).trans ?_, hr⟩
    · simp only [T_mesh_New, DN, c, cond_false]; exact (v_new1 (h hn) L _).trans h1
    · simp only [T_r54_New, DN, c, cond_false]; exact (v_rnew1 (h hn) L _).trans h2
  · have c : decide ((N.length : Int) > 16) = true := decide_eq_true (by omega)
    refine ⟨(mkM [] [], 4), (flow_eq _ _).trans ?_, (flow_eq _ _).trans ?_, .inl rfl⟩
    · simp only [T_mesh_New, DN, c, cond_true]
    · simp only [T_r54_New, DN, c, cond_true]

/-! ## the law -/
theorem v_sameM (N : List api_Node) (L : List api_Pair) (hN : N.length ≤ 1000) (hL : L.length ≤ 1000) (hs : ∀ x ∈ N, m_r53_Same x x = some true) : m_law54_same (mkM N L) (mkM N L) = some true := (flow_eq _ _).trans (by
  have b6 : flow T_law54_same (.b6 0 (mkM N L) (mkM N L)) = some true := (flow_eq _ _).trans (by simp only [T_law54_same, DN, List.length_nil, b00, cond_false])
  have b4 : flow T_law54_same (.b4 0 (mkM N L) (mkM N L)) = some true := (flow_eq _ _).trans (by simp only [T_law54_same, DN, List.length_nil, b00, cond_false, b6])
  have b3 := loop_stay (fun i => flow T_law54_same (.b3 i (mkM N L) (mkM N L))) L.length (some true) (fun i hi => (flow_eq _ _).trans (by
      simp only [T_law54_same, DN, ltN i L.length hi, kIn i L hi, getN i L hi, cond_true, Option.bind_some, beq_self_eq_true, Bool.and_self, Bool.not_true, cond_false, w64_succ i (by omega)]))
    ((flow_eq _ _).trans (by simp only [T_law54_same, DN, nltN, cond_false, b4]))
  have b2 := loop_stay (fun i => flow T_law54_same (.b2 i (mkM N L) (mkM N L))) N.length (some true) (fun i hi => (flow_eq _ _).trans (by
      simp only [T_law54_same, DN, ltN i N.length hi, kIn i N hi, getN i N hi, cond_true, Option.bind_some, hs _ (List.getElem_mem hi), Bool.not_true, cond_false, w64_succ i (by omega)]))
    ((flow_eq _ _).trans (by simp only [T_law54_same, DN, nltN, cond_false]; exact b3))
  have b1 : flow T_law54_same (.b1 (mkM N L) (mkM N L)) = some true := (flow_eq _ _).trans (by simp only [T_law54_same, DN]; exact b2)
  simp only [T_law54_same, DN, bne_self_eq_false, cond_false, b1])
theorem nds_K (p : wirelesslaw54_Plan) (h : (ndsV p).length ≤ 16) : NodesK (ndsV p) :=
  ⟨h, nds_addr p, fun x hx => by obtain ⟨a, r, f, rfl⟩ := nds_mem hx; exact v_own a r f⟩
theorem v_begin (p : wirelesslaw54_Plan) (hn : p.Relays.length ≤ 20) (hl : p.Links.length ≤ 300) (h1 : p.Losses.length * 16 ≤ lim) (h2 : p.Losses.length ≤ maxLen) : ∃ m x e, m_law54_begin p = some (m, x, e, true) := by
  obtain ⟨r, e1, e2, hr⟩ := v_new (ndsV p) p.Links hl (nds_K p)
  have hs : m_law54_same r.1 r.1 = some true := by
    rcases hr with hr | hr <;> rw [hr]
    · exact v_sameM [] [] (by simp) (by simp) (fun x hx => by cases hx)
    · exact v_sameM _ _ (by rw [ndsV_len]; omega) (by omega) (fun x hx => by obtain ⟨a, r, f, rfl⟩ := nds_mem hx; exact v_same a r f)
  have b2 : ∀ z z', ∃ m x e, flow T_law54_begin (.b2 r.2 p z z' r.1 r.1) = some (m, x, e, true) := fun z z' => ⟨_, _, _, (flow_eq _ _).trans (by
    simp only [T_law54_begin, DN, Nat.zero_add, decide_eq_true h1, decide_eq_true h2, Bool.and_self, cond_true]
    rfl)⟩
  obtain ⟨m, x, e, hb⟩ := b2 (mkM [] []) (mkM [] [])
  refine ⟨m, x, e, (flow_eq _ _).trans ?_⟩
  simp only [T_law54_begin, DN, v_nodes p hn, Option.bind_some, List.nil_append, Nat.zero_add, kA1 p.Links.length 16 (by omega) (by omega), kA2 p.Links.length (by omega), Bool.and_self, cond_true, e1, e2, bne_self_eq_false, cond_false, hs, Bool.not_true]
  exact hb
theorem law_MeshNews (p : wirelesslaw54_Plan) (hv : m_law54_lives = some true) (h1 : p.Losses.length * 16 ≤ lim) (h2 : p.Losses.length ≤ maxLen) : m_law54_MeshNews p = some true := (flow_eq _ _).trans (by
  by_cases hn : p.Relays.length ≤ 20
  · have c1 : decide ((p.Relays.length : Int) > 20) = false := decide_eq_false (by omega)
    by_cases hl : p.Links.length ≤ 300
    · have c2 : decide ((p.Links.length : Int) > 300) = false := decide_eq_false (by omega)
      obtain ⟨m, x, e, hb⟩ := v_begin p hn hl h1 h2
      have b1 : flow T_law54_MeshNews (.b1 p) = some true := (flow_eq _ _).trans (by simp only [T_law54_MeshNews, DN, hb, Option.bind_some])
      simp only [T_law54_MeshNews, DN, hv, Option.bind_some, Bool.not_true, cond_false, c1, c2, b1]
    · have c2 : decide ((p.Links.length : Int) > 300) = true := decide_eq_true (by omega)
      simp only [T_law54_MeshNews, DN, hv, Option.bind_some, Bool.not_true, cond_false, c1, c2, cond_true]
  · have c1 : decide ((p.Relays.length : Int) > 20) = true := decide_eq_true (by omega)
    simp only [T_law54_MeshNews, DN, hv, Option.bind_some, Bool.not_true, cond_false, c1, cond_true])
end Go.Proofs.YtpikcdlhgiooaaaGreat

