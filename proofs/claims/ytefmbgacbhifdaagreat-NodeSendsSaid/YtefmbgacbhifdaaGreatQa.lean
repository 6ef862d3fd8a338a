/-
  A part of the proof.
-/
import Derived.Test.YtefmbgacbhifdaaGreatXUn
import Derived.Laws.BitsAllLaws
namespace Go.Proofs.YtefmbgacbhifdaaGreat
open Go Go.Proofs.YtefmbgacbhifdaaGreat.Le
set_option maxRecDepth 100000
theorem Z0s {n : Int} (h : -9223372036854775808 ≤ n) (h' : n ≤ 9223372036854775807) : w64 n = n := by
  simp only [w64, IntKind.wrap, IntKind.signed, IntKind.bits]
  simp
  omega
theorem Zmk (i : Nat) (h : i < 4611686018427387904) : w64 ((i : Int) + 1) = ((i + 1 : Nat) : Int) := by
  rw [Z0s (by omega) (by omega)]; simp
theorem wu64 {n : Int} (h : 0 ≤ n) (h' : n < 18446744073709551616) : IntKind.wrap .u64 n = n := by rw [IntKind.wrap_u64]; exact Int.emod_eq_of_lt h h'
theorem wu32 {n : Int} (h : 0 ≤ n) (h' : n < 4294967296) : IntKind.wrap .u32 n = n := by rw [IntKind.wrap_u32]; exact Int.emod_eq_of_lt h h'
theorem wu8 {n : Int} (h : 0 ≤ n) (h' : n < 256) : IntKind.wrap .u8 n = n := by rw [IntKind.wrap_u8]; exact Int.emod_eq_of_lt h h'
theorem r64 (n : Int) : 0 ≤ IntKind.wrap .u64 n ∧ IntKind.wrap .u64 n < 18446744073709551616 := by rw [IntKind.wrap_u64]; omega
theorem r32 (n : Int) : 0 ≤ IntKind.wrap .u32 n ∧ IntKind.wrap .u32 n < 4294967296 := by rw [IntKind.wrap_u32]; omega
theorem r8 (n : Int) : 0 ≤ IntKind.wrap .u8 n ∧ IntKind.wrap .u8 n < 256 := by rw [IntKind.wrap_u8]; omega
theorem b64 (o : BinOp) (a b : Int) : 0 ≤ bits o .u64 a b ∧ bits o .u64 a b < 18446744073709551616 := r64 _
theorem b32 (o : BinOp) (a b : Int) : 0 ≤ bits o .u32 a b ∧ bits o .u32 a b < 4294967296 := r32 _
theorem b8 (o : BinOp) (a b : Int) : 0 ≤ bits o .u8 a b ∧ bits o .u8 a b < 256 := r8 _
theorem wraps_u64 (n : Int) (h₀ : 0 ≤ n) (h₁ : n < 2 ^ 64) : IntKind.u64.wrap n = n := wu64 h₀ h₁
theorem wraps_u32 (n : Int) (h₀ : 0 ≤ n) (h₁ : n < 2 ^ 32) : IntKind.u32.wrap n = n := wu32 h₀ h₁
theorem or_lo (k : IntKind) (j : Nat) (hj : j ≤ k.bits) (hk : ∀ n : Int, 0 ≤ n → n < 2 ^ j → k.wrap n = n) (i : Nat) (hi : i ≤ j)
    (x y : Int) (hy₀ : 0 ≤ y) (hy : y % 2 ^ i = 0) (hy₁ : y < 2 ^ j) (hx₀ : 0 ≤ x) (hx : x < 2 ^ i) : bits .or k x y = x + y := by
  have hx₁ : x < 2 ^ j := Int.lt_of_lt_of_le hx (by exact_mod_cast Nat.pow_le_pow_right (by decide) hi)
  have h := bits_join k j hj hk i y x hy₀ hy hy₁ hx₀ hx hx₁
  obtain ⟨a, rfl⟩ := Int.eq_ofNat_of_zero_le hx₀
  obtain ⟨b, rfl⟩ := Int.eq_ofNat_of_zero_le hy₀
  rw [(bits_nat k j hj hk b a (by exact_mod_cast hy₁) (by exact_mod_cast hx₁)).2] at h
  rw [(bits_nat k j hj hk a b (by exact_mod_cast hx₁) (by exact_mod_cast hy₁)).2, Nat.or_comm, h, Int.add_comm]
theorem ZyE {i n : Nat} (h : i < n) : decide (i < n) = true := decide_eq_true h
theorem ZxZ {i n : Nat} (h : n ≤ i) : decide (i < n) = false := decide_eq_false (by omega)
theorem Zno : 1000000000 ≤ lim := by decide
theorem Z7s : 1000000000 ≤ maxLen := by decide
theorem Zn1 (a b k : Nat) (h : a + b ≤ 1000000) (hk : k ≤ 1000) : (decide ((a + b) * k ≤ lim) && decide (a + b ≤ maxLen)) = true := by
  have h1 : (a + b) * k ≤ 1000000000 := Nat.le_trans (Nat.mul_le_mul h hk) (by decide)
  exact Bool.and_eq_true_iff.mpr ⟨decide_eq_true (Nat.le_trans h1 Zno), decide_eq_true (Nat.le_trans (Nat.le_trans h (by decide)) Z7s)⟩
theorem Zxv (a k : Nat) (h : a ≤ 1000000) (hk : k ≤ 1000) : (decide (a * k ≤ lim) && decide (a ≤ maxLen)) = true := by
  simpa using Zn1 0 a k (by simpa using h) hk
theorem SL : (∀ n : Nat, (0 : Int) ≤ (n : Int)) ∧ (∀ n m : Nat, ((n : Int) < (m : Int)) ↔ n < m) ∧ (∀ n : Nat, Int.toNat (n : Int) = n) ∧
    (∀ (α : Type) (l : List α) (i : Nat) (h : i < l.length), l[i]? = some l[i]) ∧ (∀ (α : Type) [BEq α] [ReflBEq α] (a : α), (a == a) = true) ∧
    (∀ a : Bool, (a && true) = a) ∧ (∀ a : Bool, (true && a) = a) ∧ (∀ (α : Type) (a b : List α), (a ++ b).length = a.length + b.length) ∧ (∀ (α : Type) (a : List α), [] ++ a = a) ∧ (∀ n : Nat, 0 + n = n) ∧
    (∀ a b k : Nat, a + b ≤ 1000000 → k ≤ 1000 → (decide ((a + b) * k ≤ lim) && decide (a + b ≤ maxLen)) = true) ∧ (∀ a k : Nat, a ≤ 1000000 → k ≤ 1000 → (decide (a * k ≤ lim) && decide (a ≤ maxLen)) = true) ∧
    (∀ i : Nat, i < 4611686018427387904 → w64 ((i : Int) + 1) = ((i + 1 : Nat) : Int)) ∧ (∀ i n : Nat, i < n → decide (i < n) = true) ∧ (∀ i n : Nat, n ≤ i → decide (i < n) = false) :=
  ⟨Int.natCast_nonneg, @Int.ofNat_lt, Int.toNat_natCast, fun _ _ _ h => List.getElem?_eq_getElem h, fun _ _ _ a => beq_self_eq_true a, Bool.and_true, Bool.true_and, fun _ _ _ => List.length_append, fun _ a => List.nil_append a, Nat.zero_add, Zn1, Zxv, Zmk, fun _ _ h => ZyE h, fun _ _ h => ZxZ h⟩
theorem SM : (∀ (α β : Type) (a : α) (f : α → Option β), (some a).bind f = f a) ∧ (decide True = true) ∧ (decide False = false) ∧ (∀ (α : Type) (a b : α), cond true a b = a) ∧ (∀ (α : Type) (a b : α), cond false a b = b) ∧
    (∀ p : Prop, (True ∧ p) = p) ∧ (∀ p : Prop, (p ∧ True) = p) ∧ (∀ α : Type, ([] : List α).length = 0) ∧ (∀ (α : Type) (a : α) (l : List α), (a :: l).length = l.length + 1) ∧ ((!true) = false) ∧ ((!false) = true) :=
  ⟨fun _ _ _ _ => rfl, rfl, rfl, fun _ _ _ => rfl, fun _ _ _ => rfl, true_and, and_true, fun _ => rfl, fun _ _ _ => rfl, rfl, rfl⟩
theorem Z5V {S R α : Type} (F : S → Int → Option R) (xs : List α) (step : S → α → S) (fin : S → Option R) (Inv : Nat → S → Prop)
    (hstep : ∀ (i : Nat) s (h : i < xs.length), Inv i s → F s i = F (step s xs[i]) ((i + 1 : Nat) : Int) ∧ Inv (i + 1) (step s xs[i]))
    (hfin : ∀ s, Inv xs.length s → F s (xs.length : Int) = fin s) (s : S) (h0 : Inv 0 s) : F s 0 = fin (xs.foldl step s) ∧ Inv xs.length (xs.foldl step s) := by
  have key : ∀ (ys zs : List α) (s : S), xs = ys ++ zs → Inv ys.length s → F s (ys.length : Int) = fin (zs.foldl step s) ∧ Inv xs.length (zs.foldl step s) := by
    intro ys zs
    induction zs generalizing ys with
    | nil =>
      intro s hx hi
      rw [List.append_nil] at hx
      subst hx
      exact ⟨hfin s hi, hi⟩
    | cons z zs ih =>
      intro s hx hi
      have hl : ys.length < xs.length := by rw [hx]; simp
      have hz : xs[ys.length] = z := by simp [hx]
      obtain ⟨h1, h2⟩ := hstep ys.length s hl hi
      rw [hz] at h1 h2
      rw [h1]
      have := ih (ys ++ [z]) (step s z) (by simp [hx]) (by simpa using h2)
      simpa using this
  exact key [] xs s rfl h0
theorem Zu5 {α β : Type} (f : α → List β) (xs : List α) (s : List β) : xs.foldl (fun s x => s ++ f x) s = s ++ xs.flatMap f := by
  induction xs generalizing s with
  | nil => simp
  | cons x xs ih => simp [List.foldl_cons, ih, List.append_assoc]
def Bytes (xs : List Int) : Prop := ∀ x ∈ xs, 0 ≤ x ∧ x < 256
theorem Bytes.nil : Bytes [] := fun _ h => by cases h
theorem Bytes.cons {x : Int} {xs : List Int} (h : 0 ≤ x ∧ x < 256) (hx : Bytes xs) : Bytes (x :: xs) := fun y hy => by
  rcases List.mem_cons.1 hy with rfl | hy
  · exact h
  · exact hx y hy
theorem Bytes.app {xs ys : List Int} (hx : Bytes xs) (hy : Bytes ys) : Bytes (xs ++ ys) := fun y h => (List.mem_append.1 h).elim (hx y) (hy y)
theorem Bytes.sub {xs ys : List Int} (hx : Bytes xs) (h : ∀ y ∈ ys, y ∈ xs) : Bytes ys := fun y hy => hx y (h y hy)
theorem Bytes.take {xs : List Int} (hx : Bytes xs) (n : Nat) : Bytes (xs.take n) := hx.sub fun _ h => List.mem_of_mem_take h
theorem Bytes.drop {xs : List Int} (hx : Bytes xs) (n : Nat) : Bytes (xs.drop n) := hx.sub fun _ h => List.mem_of_mem_drop h
theorem Bytes.get {xs : List Int} (hx : Bytes xs) (i : Nat) (h : i < xs.length) : 0 ≤ xs[i] ∧ xs[i] < 256 := hx _ (List.getElem_mem h)
theorem Bytes.flat {α : Type} (f : α → List Int) (l : List α) (h : ∀ x ∈ l, Bytes (f x)) : Bytes (l.flatMap f) := fun y hy => by
  obtain ⟨x, hx, hy⟩ := List.mem_flatMap.1 hy
  exact h x hx y hy
def val : List Int → Int
  | [] => 0
  | b :: r => b + 256 * val r
theorem Zuw {xs : List Int} (h : Bytes xs) : 0 ≤ val xs ∧ val xs < 256 ^ xs.length := by
  induction xs with
  | nil => simp [val]
  | cons x xs ih =>
    have h1 := ih fun y hy => h y (List.mem_cons_of_mem _ hy)
    have h2 := h x List.mem_cons_self
    simp only [val, List.length_cons]
    rw [Int.pow_succ]
    omega
theorem val_append (xs : List Int) (ys : List Int) : val (xs ++ ys) = val xs + 256 ^ xs.length * val ys := by
  induction xs with
  | nil => simp [val]
  | cons x xs ih =>
    simp only [List.cons_append, val, ih, List.length_cons]
    rw [Int.pow_succ, Int.mul_add, ← Int.mul_assoc, Int.mul_comm 256 (256 ^ xs.length), Int.add_assoc]
theorem ZtW {n : Nat} (h : n ≤ 8) : (256 : Int) ^ n ≤ 18446744073709551616 :=
  (by decide : ∀ n : Fin 9, (256 : Int) ^ n.1 ≤ 18446744073709551616) ⟨n, by omega⟩
theorem ZnO {xs : List Int} (h : Bytes xs) (hl : xs.length ≤ 8) : 0 ≤ val xs ∧ val xs < 18446744073709551616 := by
  have h1 := Zuw h
  exact ⟨h1.1, Int.lt_of_lt_of_le h1.2 (ZtW hl)⟩
def num : Nat → Int → List Int
  | 0, _ => []
  | n + 1, v => (v % 256) :: num n (v / 256)
theorem ZH (n : Nat) (v : Int) : (num n v).length = n := by
  induction n generalizing v with
  | zero => rfl
  | succ n ih => simp [num, ih]
theorem Z4m (n : Nat) (v : Int) : Bytes (num n v) := by
  induction n generalizing v with
  | zero => exact Bytes.nil
  | succ n ih => exact Bytes.cons (by omega) (ih _)
theorem ZqR (n : Nat) (v : Int) : num (n + 1) v = num n v ++ [v / 256 ^ n % 256] := by
  induction n generalizing v with
  | zero => simp [num]
  | succ n ih =>
    have e : num (n + 2) v = (v % 256) :: num (n + 1) (v / 256) := rfl
    rw [e, ih]
    simp only [num, List.cons_append]
    rw [Int.pow_succ, Int.mul_comm, ← Int.ediv_ediv_of_nonneg (by decide)]
theorem ZvF (n m : Nat) (v : Int) (h : n ≤ m) : (num m v).take n = num n v := by
  induction n generalizing m v with
  | zero => simp [num]
  | succ n ih =>
    obtain ⟨m, rfl⟩ : ∃ k, m = k + 1 := ⟨m - 1, by omega⟩
    simp [num, ih m _ (by omega)]
end Go.Proofs.YtefmbgacbhifdaaGreat
