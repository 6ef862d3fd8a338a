/-
  A part of the proof.
-/
import Derived.Test.YtefmbgacbhifdaaGreatHUn
import Derived.Laws.BitsAllLaws
import Derived.Test.YtefmbgacbhifdaaGreatF3
namespace Go.Proofs.YtefmbgacbhifdaaGreat
open Go Go.Proofs.YtefmbgacbhifdaaGreat.Le
set_option maxRecDepth 100000
theorem Z1B {n : Int} (h : -9223372036854775808 <= n) (h' : n <= 9223372036854775807) : w64 n = n := by
 simp only [w64, IntKind.wrap, IntKind.signed, IntKind.bits]
 simp
 omega
theorem Zp3 (i : Nat) (h : i < 4611686018427387904) : w64 ((i : Int) + 1) = ((i + 1 : Nat) : Int) := by
 rw [Z1B (by omega) (by omega)]; simp
theorem wu64 {n : Int} (h : 0 <= n) (h' : n < 18446744073709551616) : IntKind.wrap .u64 n = n := by rw [IntKind.wrap_u64]; exact Int.emod_eq_of_lt h h'
theorem ZtG {n : Int} (h : 0 <= n) (h' : n < 4294967296) : IntKind.wrap .u32 n = n := by rw [IntKind.wrap_u32]; exact Int.emod_eq_of_lt h h'
theorem ZDj {n : Int} (h : 0 <= n) (h' : n < 65536) : IntKind.wrap .u16 n = n := by rw [IntKind.wrap_u16]; exact Int.emod_eq_of_lt h h'
theorem wu8 {n : Int} (h : 0 <= n) (h' : n < 256) : IntKind.wrap .u8 n = n := by rw [IntKind.wrap_u8]; exact Int.emod_eq_of_lt h h'
theorem r64 (n : Int) : 0 <= IntKind.wrap .u64 n /\ IntKind.wrap .u64 n < 18446744073709551616 := by rw [IntKind.wrap_u64]; omega
theorem r32 (n : Int) : 0 <= IntKind.wrap .u32 n /\ IntKind.wrap .u32 n < 4294967296 := by rw [IntKind.wrap_u32]; omega
theorem r8 (n : Int) : 0 <= IntKind.wrap .u8 n /\ IntKind.wrap .u8 n < 256 := by rw [IntKind.wrap_u8]; omega
theorem b64 (o : BinOp) (a b : Int) : 0 <= bits o .u64 a b /\ bits o .u64 a b < 18446744073709551616 := r64 _
theorem b32 (o : BinOp) (a b : Int) : 0 <= bits o .u32 a b /\ bits o .u32 a b < 4294967296 := r32 _
theorem b8 (o : BinOp) (a b : Int) : 0 <= bits o .u8 a b /\ bits o .u8 a b < 256 := r8 _
theorem wraps_u64 (n : Int) (h₀ : 0 <= n) (h₁ : n < 2 ^ 64) : IntKind.u64.wrap n = n := wu64 h₀ h₁
theorem wraps_u32 (n : Int) (h₀ : 0 <= n) (h₁ : n < 2 ^ 32) : IntKind.u32.wrap n = n := ZtG h₀ h₁
theorem ZrI (k : IntKind) (j : Nat) (hj : j <= k.bits) (hk : ∀ n : Int, 0 <= n -> n < 2 ^ j -> k.wrap n = n) (i : Nat) (hi : i <= j)
  (x y : Int) (hy₀ : 0 <= y) (hy : y % 2 ^ i = 0) (hy₁ : y < 2 ^ j) (hx₀ : 0 <= x) (hx : x < 2 ^ i) : bits .or k x y = x + y := by
 have hx₁ : x < 2 ^ j := Int.lt_of_lt_of_le hx (by exact_mod_cast Nat.pow_le_pow_right (by decide) hi)
 have h := bits_join k j hj hk i y x hy₀ hy hy₁ hx₀ hx hx₁
 obtain ⟨a, rfl⟩ := Int.eq_ofNat_of_zero_le hx₀
 obtain ⟨b, rfl⟩ := Int.eq_ofNat_of_zero_le hy₀
 rw [(bits_nat k j hj hk b a (by exact_mod_cast hy₁) (by exact_mod_cast hx₁)).2] at h
 rw [(bits_nat k j hj hk a b (by exact_mod_cast hx₁) (by exact_mod_cast hy₁)).2, Nat.or_comm, h, Int.add_comm]
theorem ZCk {i n : Nat} (h : i < n) : decide (i < n) = true := decide_eq_true h
theorem ZBg {i n : Nat} (h : n <= i) : decide (i < n) = false := decide_eq_false (by omega)
theorem Zrc : 1000000000 <= lim := by decide
theorem Zao : 1000000000 <= maxLen := by decide
theorem Zzo (a b k : Nat) (h : a + b <= 1000000) (hk : k <= 1000) : (decide ((a + b) * k <= lim) && decide (a + b <= maxLen)) = true := by
 have h1 : (a + b) * k <= 1000000000 := Nat.le_trans (Nat.mul_le_mul h hk) (by decide)
 exact Bool.and_eq_true_iff.mpr ⟨decide_eq_true (Nat.le_trans h1 Zrc), decide_eq_true (Nat.le_trans (Nat.le_trans h (by decide)) Zao)⟩
theorem ZBn (a k : Nat) (h : a <= 1000000) (hk : k <= 1000) : (decide (a * k <= lim) && decide (a <= maxLen)) = true := by
 simpa using Zzo 0 a k (by simpa using h) hk
theorem SL : (∀ n : Nat, (0 : Int) <= (n : Int)) /\ (∀ n m : Nat, ((n : Int) < (m : Int)) ↔ n < m) /\ (∀ n : Nat, Int.toNat (n : Int) = n) /\
  (∀ (α : Type) (l : List α) (i : Nat) (h : i < l.length), l[i]? = some l[i]) /\ (∀ (α : Type) [BEq α] [ReflBEq α] (a : α), (a == a) = true) /\
  (∀ a : Bool, (a && true) = a) /\ (∀ a : Bool, (true && a) = a) /\ (∀ (α : Type) (a b : List α), (a ++ b).length = a.length + b.length) /\ (∀ (α : Type) (a : List α), [] ++ a = a) /\ (∀ n : Nat, 0 + n = n) /\
  (∀ a b k : Nat, a + b <= 1000000 -> k <= 1000 -> (decide ((a + b) * k <= lim) && decide (a + b <= maxLen)) = true) /\ (∀ a k : Nat, a <= 1000000 -> k <= 1000 -> (decide (a * k <= lim) && decide (a <= maxLen)) = true) /\
  (∀ i : Nat, i < 4611686018427387904 -> w64 ((i : Int) + 1) = ((i + 1 : Nat) : Int)) /\ (∀ i n : Nat, i < n -> decide (i < n) = true) /\ (∀ i n : Nat, n <= i -> decide (i < n) = false) :=
 ⟨Int.natCast_nonneg, @Int.ofNat_lt, Int.toNat_natCast, fun _ _ _ h => List.getElem?_eq_getElem h, fun _ _ _ a => beq_self_eq_true a, Bool.and_true, Bool.true_and, fun _ _ _ => List.length_append, fun _ a => List.nil_append a, Nat.zero_add, Zzo, ZBn, Zp3, fun _ _ h => ZCk h, fun _ _ h => ZBg h⟩
theorem SM : (∀ (α β : Type) (a : α) (f : α -> Option β), (some a).bind f = f a) /\ (decide True = true) /\ (decide False = false) /\ (∀ (α : Type) (a b : α), cond true a b = a) /\ (∀ (α : Type) (a b : α), cond false a b = b) /\
  (∀ p : Prop, (True /\ p) = p) /\ (∀ p : Prop, (p /\ True) = p) /\ (∀ α : Type, ([] : List α).length = 0) /\ (∀ (α : Type) (a : α) (l : List α), (a :: l).length = l.length + 1) /\ ((!true) = false) /\ ((!false) = true) :=
 ⟨fun _ _ _ _ => rfl, rfl, rfl, fun _ _ _ => rfl, fun _ _ _ => rfl, true_and, and_true, fun _ => rfl, fun _ _ _ => rfl, rfl, rfl⟩
theorem Zam {S R α : Type} (F : S -> Int -> Option R) (xs : List α) (step : S -> α -> S) (fin : S -> Option R) (Inv : Nat -> S -> Prop)
  (hstep : ∀ (i : Nat) s (h : i < xs.length), Inv i s -> F s i = F (step s xs[i]) ((i + 1 : Nat) : Int) /\ Inv (i + 1) (step s xs[i]))
  (hfin : ∀ s, Inv xs.length s -> F s (xs.length : Int) = fin s) (s : S) (h0 : Inv 0 s) : F s 0 = fin (xs.foldl step s) /\ Inv xs.length (xs.foldl step s) := by
 have key : ∀ (ys zs : List α) (s : S), xs = ys ++ zs -> Inv ys.length s -> F s (ys.length : Int) = fin (zs.foldl step s) /\ Inv xs.length (zs.foldl step s) := by
  intro ys zs
  induction zs generalizing ys with
  | nil =>
   intro s hx hi
   rw [List.append_nil] at hx
   subst hx
   exact ⟨hfin s hi, hi⟩
  | cons z zs ih =>
   intro s hx hi
   have hl : ys.length < xs.length := by rw [hx]; simp
   have hz : xs[ys.length] = z := by simp [hx]
   obtain ⟨h1, h2⟩ := hstep ys.length s hl hi
   rw [hz] at h1 h2
   rw [h1]
   have := ih (ys ++ [z]) (step s z) (by simp [hx]) (by simpa using h2)
   simpa using this
 exact key [] xs s rfl h0
theorem ZwP {α β : Type} (f : α -> List β) (xs : List α) (s : List β) : xs.foldl (fun s x => s ++ f x) s = s ++ xs.flatMap f := by
 induction xs generalizing s with
 | nil => simp
 | cons x xs ih => simp [List.foldl_cons, ih, List.append_assoc]
def Bytes (xs : List Int) : Prop := ∀ x ∈ xs, 0 <= x /\ x < 256
theorem Bytes.nil : Bytes [] := fun _ h => by cases h
theorem Bytes.cons {x : Int} {xs : List Int} (h : 0 <= x /\ x < 256) (hx : Bytes xs) : Bytes (x :: xs) := fun y hy => by
 rcases List.mem_cons.1 hy with rfl | hy
 ·exact h
 ·exact hx y hy
theorem Bytes.app {xs ys : List Int} (hx : Bytes xs) (hy : Bytes ys) : Bytes (xs ++ ys) := fun y h => (List.mem_append.1 h).elim (hx y) (hy y)
theorem Bytes.sub {xs ys : List Int} (hx : Bytes xs) (h : ∀ y ∈ ys, y ∈ xs) : Bytes ys := fun y hy => hx y (h y hy)
theorem Bytes.take {xs : List Int} (hx : Bytes xs) (n : Nat) : Bytes (xs.take n) := hx.sub fun _ h => List.mem_of_mem_take h
theorem Bytes.drop {xs : List Int} (hx : Bytes xs) (n : Nat) : Bytes (xs.drop n) := hx.sub fun _ h => List.mem_of_mem_drop h
theorem Bytes.get {xs : List Int} (hx : Bytes xs) (i : Nat) (h : i < xs.length) : 0 <= xs[i] /\ xs[i] < 256 := hx _ (List.getElem_mem h)
theorem Bytes.flat {α : Type} (f : α -> List Int) (l : List α) (h : ∀ x ∈ l, Bytes (f x)) : Bytes (l.flatMap f) := fun y hy => by
 obtain ⟨x, hx, hy⟩ := List.mem_flatMap.1 hy
 exact h x hx y hy
def val : List Int -> Int
 | [] => 0
 | b :: r => b + 256 * val r
theorem Zvn {xs : List Int} (h : Bytes xs) : 0 <= val xs /\ val xs < 256 ^ xs.length := by
 induction xs with
 | nil => simp [val]
 | cons x xs ih =>
  have h1 := ih fun y hy => h y (List.mem_cons_of_mem _ hy)
  have h2 := h x List.mem_cons_self
  simp only [val, List.length_cons]
  rw [Int.pow_succ]
  omega
theorem val_append (xs : List Int) (ys : List Int) : val (xs ++ ys) = val xs + 256 ^ xs.length * val ys := by
 induction xs with
 | nil => simp [val]
 | cons x xs ih =>
  simp only [List.cons_append, val, ih, List.length_cons]
  rw [Int.pow_succ, Int.mul_add, <- Int.mul_assoc, Int.mul_comm 256 (256 ^ xs.length), Int.add_assoc]
theorem ZwJ {n : Nat} (h : n <= 8) : (256 : Int) ^ n <= 18446744073709551616 :=
 (by decide : ∀ n : Fin 9, (256 : Int) ^ n.1 <= 18446744073709551616) ⟨n, by omega⟩
theorem Zqz {xs : List Int} (h : Bytes xs) (hl : xs.length <= 8) : 0 <= val xs /\ val xs < 18446744073709551616 := by
 have h1 := Zvn h
 exact ⟨h1.1, Int.lt_of_lt_of_le h1.2 (ZwJ hl)⟩
def num : Nat -> Int -> List Int
 | 0, _ => []
 | n + 1, v => (v % 256) :: num n (v / 256)
theorem Z0U (n : Nat) (v : Int) : (num n v).length = n := by
 induction n generalizing v with
 | zero => rfl
 | succ n ih => simp [num, ih]
theorem Z3E (n : Nat) (v : Int) : Bytes (num n v) := by
 induction n generalizing v with
 | zero => exact Bytes.nil
 | succ n ih => exact Bytes.cons (by omega) (ih _)
theorem Zt3 (n : Nat) (v : Int) : num (n + 1) v = num n v ++ [v / 256 ^ n % 256] := by
 induction n generalizing v with
 | zero => simp [num]
 | succ n ih =>
  have e : num (n + 2) v = (v % 256) :: num (n + 1) (v / 256) := rfl
  rw [e, ih]
  simp only [num, List.cons_append]
  rw [Int.pow_succ, Int.mul_comm, <- Int.ediv_ediv_of_nonneg (by decide)]
theorem Zz3 (n m : Nat) (v : Int) (h : n <= m) : (num m v).take n = num n v := by
 induction n generalizing m v with
 | zero => simp [num]
 | succ n ih =>
  obtain ⟨m, rfl⟩ : ∃ k, m = k + 1 := ⟨m - 1, by omega⟩
  simp [num, ih m _ (by omega)]
end Go.Proofs.YtefmbgacbhifdaaGreat
namespace Go.Proofs.YtefmbgacbhifdaaGreat
open Go Go.Proofs.YtefmbgacbhifdaaGreat.Le
set_option maxRecDepth 100000
theorem via {α : Type} {a b : α} (m : α) (h1 : a = m) (h2 : b = m) : a = b := h1.trans h2.symm
theorem and32 (x : Int) (h : 0 <= x) (h' : x < 18446744073709551616) : bits .and .u64 x (IntKind.wrap .u64 ((IntKind.wrap .u64 ((1 : Int) * 2 ^ (min (Int.toNat 32) (IntKind.bits .u64)))) - (1 : Int))) = x % 4294967296 := by
 have := bits_mask .u64 64 (by decide) wraps_u64 32 (by decide) x h h'
 exact this
theorem Zeo (x : Int) (h : 0 <= x) (h' : x < 18446744073709551616) : Z2X x 32 = some (x % 4294967296) := (Zc _ _).trans (by
 simp only [Z9a, Tr.den, Zu]
 rw [show decide ((32 : Int) <= 0) = false from rfl, show decide ((32 : Int) >= 64) = false from rfl, show decide ((0 : Int) <= 32) = true from rfl]
 simp only [cond_false, cond_true]
 rw [and32 x h h'])
theorem or0 (x : Int) (h : 0 <= x) (h' : x < 18446744073709551616) : bits .or .u64 x 0 = x := by
 obtain ⟨a, rfl⟩ := Int.eq_ofNat_of_zero_le h
 have := (bits_nat .u64 64 (by decide) wraps_u64 a 0 (show a < 18446744073709551616 by omega) (by decide)).2
 rw [Nat.or_zero] at this
 exact this
def rotl (k : Int) (p q : Nat) : Int := bits .or .u64 (IntKind.wrap .u64 (k * 2 ^ p)) (Int.fdiv k (2 ^ q))
theorem rotl0 (k : Int) (h : 0 <= k) (h' : k < 18446744073709551616) : rotl k 0 64 = k := by
 unfold rotl
 rw [Int.pow_zero, Int.mul_one, wu64 h h', Int.fdiv_eq_ediv_of_nonneg _ (by decide), show (2 : Int) ^ 64 = 18446744073709551616 from rfl, Int.ediv_eq_zero_of_lt h h', or0 k h h']
theorem ZCe (k : Int) (h : 0 <= k) (h' : k < 18446744073709551616) (i : Int) (h0 : 0 <= i) (h8 : i < 8) :
  ∃ lo, (0 <= lo /\ lo < 4294967296) /\ Zdk k i = some lo /\ ∃ x, Z0t k (Int.tmod (w64 ((11 : Int) * (Int.tmod i (64 : Int)))) (64 : Int)) = some x /\ ∃ y, Z2X x 32 = some y /\ IntKind.wrap .u32 y = lo := by
 have key : ∀ x, 0 <= x -> x < 18446744073709551616 -> ZT Zdi (.b1 x) = some (x % 4294967296) := fun x hx hx' => (Zc _ _).trans (by
  simp only [Zdi, Tr.den, Zu]
  rw [Int.tmod_eq_emod_of_nonneg hx, ZtG (by omega) (by omega)])
 have hi : i = 0 \/ i = 1 \/ i = 2 \/ i = 3 \/ i = 4 \/ i = 5 \/ i = 6 \/ i = 7 := by omega
 have low : ∀ x, 0 <= x -> x < 18446744073709551616 -> ∃ y, Z2X x 32 = some y /\ IntKind.wrap .u32 y = x % 4294967296 := fun x hx hx' => ⟨_, Zeo x hx hx', ZtG (by omega) (by omega)⟩
 have fin : ∀ p q : Nat, ∀ n : Int, Z0t k n = some (rotl k p q) -> Zdk k i = ZT Zdi (.b1 (rotl k p q)) -> Int.tmod (w64 ((11 : Int) * (Int.tmod i (64 : Int)))) (64 : Int) = n ->
   ∃ lo, (0 <= lo /\ lo < 4294967296) /\ Zdk k i = some lo /\ ∃ x, Z0t k (Int.tmod (w64 ((11 : Int) * (Int.tmod i (64 : Int)))) (64 : Int)) = some x /\ ∃ y, Z2X x 32 = some y /\ IntKind.wrap .u32 y = lo := fun p q n h1 h2 h3 => by
  have hb : 0 <= rotl k p q /\ rotl k p q < 18446744073709551616 := b64 _ _ _
  obtain ⟨y, hy, hy'⟩ := low _ hb.1 hb.2
  exact ⟨rotl k p q % 4294967296, by omega, by rw [h2, key _ hb.1 hb.2], _, by rw [h3]; exact h1, y, hy, hy'⟩
 rcases hi with rfl | rfl | rfl | rfl | rfl | rfl | rfl | rfl
 ·refine fin 0 64 0 ((Zc _ _).trans rfl) ?_ rfl
  rw [rotl0 k h h']
  exact (Zc _ _).trans rfl
 ·exact fin 11 53 11 ((Zc _ _).trans rfl) ((Zc _ _).trans rfl) rfl
 ·exact fin 22 42 22 ((Zc _ _).trans rfl) ((Zc _ _).trans rfl) rfl
 ·exact fin 33 31 33 ((Zc _ _).trans rfl) ((Zc _ _).trans rfl) rfl
 ·exact fin 44 20 44 ((Zc _ _).trans rfl) ((Zc _ _).trans rfl) rfl
 ·exact fin 55 9 55 ((Zc _ _).trans rfl) ((Zc _ _).trans rfl) rfl
 ·exact fin 2 62 2 ((Zc _ _).trans rfl) ((Zc _ _).trans rfl) rfl
 ·exact fin 13 51 13 ((Zc _ _).trans rfl) ((Zc _ _).trans rfl) rfl
theorem turn7 (x : Int) : Z02 x 7 = Z3Z x 7 := by
 rw [show Z02 x 7 = _ from Zc _ _, show Z3Z x 7 = _ from Zc _ _]
 rfl
theorem ZCB (x : Int) : Z02 x 16 = Z3Z x 16 := by
 rw [show Z02 x 16 = _ from Zc _ _, show Z3Z x 16 = _ from Zc _ _]
 rfl
theorem ZAM (k : Int) (h : 0 <= k) (h' : k < 18446744073709551616) (i : Int) (h0 : 0 <= i) (h8 : i < 8) (a : Int) : Zfl k i a = Z5E k i a := by
 obtain ⟨lo, hlo, h1, x, h2, y, h3, h4⟩ := ZCe k h h' i h0 h8
 refine via ((Z3Z (IntKind.wrap .u32 (a + lo)) 7).bind fun x2 => (Z3Z lo 16).bind fun x3 => some (bits .xor .u32 (IntKind.wrap .u32 (x2 * (2654435761 : Int))) x3)) ((Zc _ _).trans ?_) ((Zc _ _).trans ?_)
 ·simp only [Zfh, Tr.den, Zu, h1, Option.bind_some]
  rfl
 ·simp only [Z7R, Tr.den, Zu, h2, h3, h4, Option.bind_some, turn7, ZCB]
  rfl
theorem ZBY (k : Int) (h : 0 <= k) (h' : k < 18446744073709551616) : ∀ (n : Nat) (i l r : Int), 0 <= i -> 8 - i <= n -> 0 <= l -> l < 4294967296 -> 0 <= r -> r < 4294967296 -> ZT Z8m (.b1 k l r i) = ZT Z0i (.b1 k i ⟨l, r⟩) := by
 have fin : ∀ i l r : Int, ¬ i < 8 -> 0 <= l -> l < 4294967296 -> 0 <= r -> r < 4294967296 -> ZT Z8m (.b1 k l r i) = ZT Z0i (.b1 k i ⟨l, r⟩) := fun i l r hi hl hl' hr hr' => by
  refine via (some (l * 4294967296 + r)) ((Zc _ _).trans ?_) ((Zc _ _).trans ?_)
  ·simp only [Z8m, Tr.den, Zu]
   rw [decide_eq_false hi, wu64 (n := l) (by omega) (by omega), wu64 (n := r) (by omega) (by omega), wu64 (n := l * 4294967296) (by omega) (by omega), wu64 (by omega) (by omega)]
   rfl
  ·simp only [Z0i, Tr.den, Zu]
   rw [decide_eq_false hi]
   simp only [cond_false]
   rw [show Z20 ⟨l, r⟩ = some (l * 4294967296 + r) from (Zc _ _).trans (by
    simp only [Z1W, Tr.den, Zu]
    rw [wu64 (n := l) (by omega) (by omega), wu64 (n := r) (by omega) (by omega), show (2 : Int) ^ (32 : Nat) = 4294967296 from rfl, wu64 (n := l * 4294967296) (by omega) (by omega)]
    rw [bits_join .u64 64 (by decide) wraps_u64 32 (l * 4294967296) r (by omega) (by omega) (by omega) hr (by omega) (by omega)])]
   rfl
 intro n
 induction n with
 | zero => intro i l r h0 h8 hl hl' hr hr'; exact fin i l r (by omega) hl hl' hr hr'
 | succ n ih =>
  intro i l r h0 h8 hl hl' hr hr'
  by_cases hi : i < 8
  ·refine via ((Z5E k i r).bind fun x => ZT Z0i (.b1 k (w64 (i + 1)) ⟨r, bits .xor .u32 l x⟩)) ((Zc _ _).trans ?_) ((Zc _ _).trans ?_)
   ·simp only [Z8m, Tr.den, Zu]
    rw [decide_eq_true hi, ZAM k h h' i h0 hi]
    simp only [cond_true]
    congr 1
    funext x
    have hx := b32 .xor l x
    rw [Z1B (by omega) (by omega)]
    exact ih (i + 1) r (bits .xor .u32 l x) (by omega) (by omega) hr hr' hx.1 hx.2
   ·simp only [Z0i, Tr.den, Zu]
    rw [decide_eq_true hi]
    rfl
  ·exact fin i l r hi hl hl' hr hr'
theorem e_Mix (k x : Int) (h : 0 <= k) (h' : k < 18446744073709551616) (hx : 0 <= x) (hx' : x < 18446744073709551616) : Zd2 k x = Z1m k x := by
 refine via (ZT Z0i (.b1 k 0 ⟨x / 4294967296, x % 4294967296⟩)) ((Zc _ _).trans ?_) ((Zc _ _).trans ?_)
 ·simp only [Z8m, Tr.den, Zu]
  rw [Int.tdiv_eq_ediv_of_nonneg hx, Int.tmod_eq_emod_of_nonneg hx, wu64 (n := x / 4294967296) (by omega) (by omega), ZtG (n := x / 4294967296) (by omega) (by omega), ZtG (n := x % 4294967296) (by omega) (by omega)]
  exact ZBY k h h' 8 0 _ _ (by omega) (by omega) (by omega) (by omega) (by omega) (by omega)
 ·simp only [Z0i, Tr.den, Zu]
  rw [show Z7W x = some ⟨x / 4294967296, x % 4294967296⟩ from (Zc _ _).trans (by
   simp only [Z84, Tr.den, Zu, Zeo x hx hx', Option.bind_some]
   rw [Int.fdiv_eq_ediv_of_nonneg _ (by decide), show (2 : Int) ^ (32 : Nat) = 4294967296 from rfl, ZtG (n := x / 4294967296) (by omega) (by omega), ZtG (n := x % 4294967296) (by omega) (by omega)])]
  rfl
noncomputable def ZxW (k x : Int) : Int := (Z1m k x).getD 0
theorem Zur (k x : Int) : Z1m k x = some (ZxW k x) := by
 obtain ⟨r, hr⟩ := ZCc k x
 rw [ZxW, hr]
 rfl
theorem Zys (k : Int) : ∀ (n : Nat) (i : Int) (h : Z0m) (r : Int), 0 <= i -> 8 - i <= n -> ZT Z0i (.b1 k i h) = some r -> 0 <= r /\ r < 18446744073709551616 := by
 have fin : ∀ (i : Int) (h : Z0m) (r : Int), ¬ i < 8 -> ZT Z0i (.b1 k i h) = some r -> 0 <= r /\ r < 18446744073709551616 := fun i h r hi hr => by
  rw [Zc] at hr
  simp only [Z0i, Tr.den, Zu] at hr
  rw [decide_eq_false hi, show Z20 h = _ from Zc _ _] at hr
  simp only [Z1W, Tr.den, Zu, cond_false, Option.bind_some, Option.some.injEq] at hr
  rw [<- hr]
  exact b64 _ _ _
 intro n
 induction n with
 | zero => intro i h r h0 h8 hr; exact fin i h r (by omega) hr
 | succ n ih =>
  intro i h r h0 h8 hr
  by_cases hi : i < 8
  ·rw [Zc] at hr
   simp only [Z0i, Tr.den, Zu] at hr
   rw [decide_eq_true hi, Z1B (by omega) (by omega)] at hr
   simp only [cond_true] at hr
   obtain ⟨x, _, hx⟩ := Option.bind_eq_some_iff.1 hr
   exact ih _ _ _ (by omega) (by omega) hx
  ·exact fin i h r hi hr
theorem ZsH (k x : Int) : 0 <= ZxW k x /\ ZxW k x < 18446744073709551616 := by
 have h := Zur k x
 rw [show Z1m k x = _ from Zc _ _] at h
 simp only [Z0i, Tr.den, Zu] at h
 obtain ⟨y, _, hy⟩ := Option.bind_eq_some_iff.1 h
 exact Zys k 8 0 y _ (by omega) (by omega) hy
def K64 (k : Int) : Prop := 0 <= k /\ k < 18446744073709551616
theorem Zqv (k x : Int) (h : K64 k) (hx : K64 x) : Zd2 k x = some (ZxW k x) := (e_Mix k x h.1 h.2 hx.1 hx.2).trans (Zur k x)
end Go.Proofs.YtefmbgacbhifdaaGreat
namespace Go.Proofs.YtefmbgacbhifdaaGreat
open Go Go.Proofs.YtefmbgacbhifdaaGreat.Le
set_option maxRecDepth 100000
theorem ZjU {R α β : Type} (F : List β -> Int -> Option R) (xs : List α) (f : α -> List β) (fin : List β -> Option R) (B : Nat)
  (hstep : ∀ (i : Nat) s (h : i < xs.length), s.length + (f xs[i]).length <= B -> F s i = F (s ++ f xs[i]) ((i + 1 : Nat) : Int))
  (hfin : ∀ s, F s (xs.length : Int) = fin s) (s : List β) (h0 : s.length + (xs.flatMap f).length <= B) : F s 0 = fin (s ++ xs.flatMap f) := by
 have key := Zam F xs (fun s x => s ++ f x) fin (fun i s => s.length + ((xs.drop i).flatMap f).length <= B)
  (fun i s h hi => by
   simp only [List.drop_eq_getElem_cons h, List.flatMap_cons, List.length_append] at hi
   exact ⟨hstep i s h (by omega), by simp only [List.length_append]; omega⟩)
  (fun s _ => hfin s) s (by simpa using h0)
 rw [key.1, ZwP]
theorem ZiU (ls : List (List Int)) (h : ls.flatten.length <= 100000) (hl : ls.length <= 100000) : ZN ls = some ls.flatten := (Zc _ _).trans (by
 simp only [Z42, Tr.den, Zu, SL, SM]
 have := ZjU (fun s i => ZT Z42 (.b1 s ls ls.length i)) ls id some 100000 (fun i s hi hs => (Zc _ _).trans (by
   simp only [id] at hs
   simp (disch := omega) only [Z42, hi, id, Tr.den, Zu, SL, SM]))
  (fun s => (Zc _ _).trans (by simp only [Z42, Int.lt_irrefl, Tr.den, Zu, SL, SM])) [] (by simpa [List.flatMap_id] using h)
 simpa [List.flatMap_id] using this)
theorem ZvC (n : Int) (h : 1 <= n) (h' : n <= 8) : Z6Q n = some true := (Zc _ _).trans (by
 simp only [Za2, Tr.den, Zu, decide_eq_true (show n >= 1 from h), decide_eq_true h', cond_true])
theorem ZAk (j : Nat) : (2 : Int) ^ (8 * j) = 256 ^ j := by rw [Int.pow_mul]; rfl
theorem sh8 (v : Int) (j : Nat) (hj : j <= 8) : Int.fdiv v (2 ^ (min (Int.toNat (w64 ((8 : Int) * (j : Int)))) (IntKind.bits .u64))) = v / 256 ^ j := by
 rw [Z1B (by omega) (by omega), show Int.toNat (8 * (j : Int)) = 8 * j by omega, show min (8 * j) (IntKind.bits .u64) = 8 * j from Nat.min_eq_left (by show 8 * j <= 64; omega), ZAk, Int.fdiv_eq_ediv_of_nonneg _ (Int.le_of_lt (by exact_mod_cast Nat.pow_pos (by decide)))]
theorem put3 (fs : List Zx) (s : List Int) (n : Int) (i m : Nat) (x : Zx) (hm : m <= 8) (hs : s.length <= 1000) (hi : i <= 1000) : ∀ (d j : Nat), j + d = m ->
  ZT Z13 (.b3 (s ++ num j x.Value) fs n i m j x) = ZT Z13 (.b1 (s ++ num m x.Value) fs n ((i + 1 : Nat) : Int)) := by
 intro d
 induction d with
 | zero =>
  intro j hj
  obtain rfl : j = m := by omega
  refine (Zc _ _).trans ?_
  simp (disch := omega) only [Z13, Int.lt_irrefl, Tr.den, Zu, SL, SM]
 | succ d ih =>
  intro j hj
  rw [<- ih (j + 1) (by omega), Zt3, <- List.append_assoc]
  refine (Zc _ _).trans ?_
  have hjm : j < m := by omega
  have h0 : decide (0 <= w64 (8 * (j : Int))) = true := decide_eq_true (by rw [Z1B (by omega) (by omega)]; omega)
  have hl := Z0U j x.Value
  simp (disch := omega) only [Z13, hjm, h0, sh8, IntKind.wrap_u8, hl, Tr.den, Zu, SL, SM]
def Z68 (f : Zx) : List Int := num f.Size.toNat f.Value
theorem ZAV (fs : List Zx) (hf : ∀ f ∈ fs, 1 <= f.Size /\ f.Size <= 8 /\ 0 <= f.Value /\ f.Value < 256 ^ f.Size.toNat) (hl : (fs.flatMap Z68).length <= 1000) (hn : fs.length <= 1000) :
  Z2Y fs = some (fs.flatMap Z68, 0) := (Zc _ _).trans (by
 simp only [Z13, Tr.den, Zu, SL, SM]
 have := ZjU (fun s i => ZT Z13 (.b1 s fs fs.length i)) fs Z68 (fun s => some (s, 0)) 1000 (fun i s hi hs => (Zc _ _).trans (by
   obtain ⟨h1, h8, h0, hv⟩ := hf fs[i] (List.getElem_mem hi)
   simp (disch := omega) only [Z13, hi, ZvC _ h1 h8, Tr.den, Zu, SL, SM]
   have key : ZT Z13 (.b2 s fs fs.length i fs[i]) = ZT Z13 (.b1 (s ++ Z68 fs[i]) fs fs.length ((i + 1 : Nat) : Int)) := by
    refine (Zc _ _).trans ?_
    simp (disch := omega) only [Z13, Tr.den, Zu, SL, SM]
    have := put3 fs s fs.length i fs[i].Size.toNat fs[i] (by omega) (by omega) (by omega) fs[i].Size.toNat 0 (by omega)
    simp only [num, List.append_nil] at this
    rw [show ((fs[i].Size.toNat : Nat) : Int) = fs[i].Size by omega] at this
    exact this
   by_cases hs8 : fs[i].Size < 8
   ·have e := sh8 fs[i].Value fs[i].Size.toNat (by omega)
    rw [show ((fs[i].Size.toNat : Nat) : Int) = fs[i].Size by omega, Int.ediv_eq_zero_of_lt h0 hv] at e
    rw [e, decide_eq_true hs8, show decide (0 <= w64 (8 * fs[i].Size)) = true from decide_eq_true (by rw [Z1B (by omega) (by omega)]; omega)]
    exact key
   ·rw [decide_eq_false hs8]
    exact key))
  (fun s => (Zc _ _).trans (by simp only [Z13, Int.lt_irrefl, Tr.den, Zu, SL, SM])) [] (by simpa using hl)
 simpa using this)
theorem ZfI {α : Type} (f : α -> List Int) (c : Nat) (xs : List α) (h : ∀ x ∈ xs, (f x).length = c) : (xs.flatMap f).length = c * xs.length := by
 induction xs with
 | nil => simp
 | cons x xs ih =>
  rw [List.flatMap_cons, List.length_append, h x List.mem_cons_self, ih fun y hy => h y (List.mem_cons_of_mem _ hy), List.length_cons, Nat.mul_succ]
  omega
theorem ZxS (xs : List Int) (hx : ∀ x ∈ xs, K64 x) (hl : xs.length <= 100) : Z4V xs = some (xs.flatMap (num 8)) := (Zc _ _).trans (by
 simp only [Z6e, Tr.den, Zu, SL, SM]
 have := ZjU (fun s i => ZT Z6e (.b1 s xs xs.length i)) xs (fun x => [(⟨8, x⟩ : Zx)]) (fun s => (Z2Y s).bind fun r => some r.1) 1000 (fun i s hi hs => (Zc _ _).trans (by
   simp only [List.length_cons, List.length_nil] at hs
   simp (disch := omega) only [Z6e, hi, Tr.den, Zu, SL, SM]))
  (fun s => (Zc _ _).trans (by simp only [Z6e, Int.lt_irrefl, Tr.den, Zu, SL, SM]; rfl)) [] (by
   rw [show (xs.flatMap fun x => [(⟨8, x⟩ : Zx)]) = xs.map fun x => (⟨8, x⟩ : Zx) from (List.map_eq_flatMap).symm]; simp; omega)
 refine this.trans ?_
 rw [List.nil_append, show (xs.flatMap fun x => [(⟨8, x⟩ : Zx)]) = xs.map fun x => (⟨8, x⟩ : Zx) from (List.map_eq_flatMap).symm]
 have e : (xs.map fun x => (⟨8, x⟩ : Zx)).flatMap Z68 = xs.flatMap (num 8) := by rw [List.flatMap_map]; rfl
 rw [ZAV _ (fun f hf => by
  obtain ⟨x, hx', rfl⟩ := List.mem_map.1 hf
  exact ⟨show (1 : Int) <= 8 by decide, show (8 : Int) <= 8 by decide, (hx x hx').1, (hx x hx').2⟩) (by rw [e, ZfI _ 8 _ fun x _ => Z0U 8 x]; omega) (by simp; omega), e]
 rfl)
theorem ZBD (m : Nat) (hm : m <= 100) (v : Int) (h : K64 v) : ∀ (d j : Nat), j + d = m -> ZT Zac (.b1 m (v / 256 ^ j) (num j v) j) = some ⟨num m v⟩ := by
 intro d
 induction d with
 | zero =>
  intro j hj
  obtain rfl : j = m := by omega
  refine (Zc _ _).trans ?_
  simp (disch := omega) only [Zac, Int.lt_irrefl, Tr.den, Zu, SL, SM]
 | succ d ih =>
  intro j hj
  have p : (0 : Int) < 256 ^ j := by exact_mod_cast Nat.pow_pos (by decide)
  have q : 0 <= v / 256 ^ j := Int.ediv_nonneg h.1 (Int.le_of_lt p)
  have q' : v / 256 ^ j < 18446744073709551616 := Int.lt_of_le_of_lt (Int.ediv_le_self _ h.1) h.2
  have hjm : j < m := by omega
  have hl := Z0U j v
  rw [<- ih (j + 1) (by omega), Zt3]
  refine (Zc _ _).trans ?_
  simp (disch := omega) only [Zac, hjm, hl, Int.tmod_eq_emod_of_nonneg q, Int.tdiv_eq_ediv_of_nonneg q, Tr.den, Zu, SL, SM]
  rw [wu8 (by omega) (by omega), wu64 (by omega) (by omega), Int.ediv_ediv_of_nonneg (by omega), Int.pow_succ]
theorem v_Num (m : Nat) (hm : m <= 100) (v : Int) (h : K64 v) : ZgN m v = some ⟨num m v⟩ := (Zc _ _).trans (by
 simp only [Zac, Tr.den, Zu, SL, SM]
 have := ZBD m hm v h m 0 (by omega)
 simpa [num] using this)
theorem ZyE (xs : List Int) (hb : Bytes xs) (hl : xs.length <= 8) : ∀ n : Nat, n <= xs.length -> ZT Z6y (.b1 xs (val (xs.drop n)) ((n : Int) - 1)) = some (val xs) := by
 intro n
 induction n with
 | zero =>
  intro _
  refine (Zc _ _).trans ?_
  simp only [Z6y, Tr.den, Zu]
  rw [show decide (((0 : Nat) : Int) - 1 >= 0) = false from rfl]
  simp
 | succ n ih =>
  intro hn
  have hd : val (xs.drop n) = xs[n] + 256 * val (xs.drop (n + 1)) := by rw [List.drop_eq_getElem_cons (show n < xs.length by omega)]; rfl
  have h1 := Zqz (hb.drop n) (by rw [List.length_drop]; omega)
  have h2 := Zqz (hb.drop (n + 1)) (by rw [List.length_drop]; omega)
  have h3 := hb.get n (by omega)
  refine (Zc _ _).trans ?_
  simp only [Z6y, Tr.den, Zu]
  rw [show ((n + 1 : Nat) : Int) - 1 = (n : Int) by omega, show decide ((n : Int) >= 0) = true from decide_eq_true (by omega), show decide (0 <= (n : Int) /\ (n : Int) < (xs.length : Int)) = true from decide_eq_true (by omega)]
  simp only [cond_true, Int.toNat_natCast, List.getElem?_eq_getElem (show n < xs.length by omega), Option.bind_some]
  rw [wu64 (n := val (xs.drop (n + 1)) * 256) (by omega) (by omega), wu64 (n := xs[n]) (by omega) (by omega), wu64 (by omega) (by omega), Z1B (by omega) (by omega), show val (xs.drop (n + 1)) * 256 + xs[n] = val (xs.drop n) by omega]
  exact ih (by omega)
theorem ZAo (xs : List Int) (hb : Bytes xs) (hl : xs.length <= 8) : Zfx xs = some (val xs) := (Zc _ _).trans (by
 simp only [Z6y, Tr.den, Zu]
 have := ZyE xs hb hl xs.length (Nat.le_refl _)
 rw [List.drop_of_length_le (Nat.le_refl _)] at this
 rw [Z1B (by omega) (by omega)]
 exact this)
def ZDh (xs : List Int) (g : Nat) : Int := val ((xs.drop (8 * g)).take 8)
theorem Zyf (ys : List Int) (hb : Bytes ys) (hl : ys.length <= 8) : ∀ m : Nat, m <= ys.length -> Zsh ys m = val (ys.take m) := by
 intro m
 induction m with
 | zero => intro _; simp [Zsh, val]
 | succ m ih =>
  intro hm
  have hx := hb.get m (by omega)
  have hv := Zvn (hb.take m)
  have hv2 := Zqz (hb.take (m + 1)) (by rw [List.length_take]; omega)
  have e : val (ys.take (m + 1)) = val (ys.take m) + 256 ^ m * ys[m] := by
   rw [List.take_add_one, List.getElem?_eq_getElem (show m < ys.length by omega), val_append]
   simp [val, Nat.min_eq_left (show m <= ys.length by omega)]
  rw [List.length_take, Nat.min_eq_left (by omega)] at hv
  rw [e] at hv2
  have hnn : 0 <= 256 ^ m * ys[m] := Int.mul_nonneg (Int.le_of_lt (by exact_mod_cast Nat.pow_pos (by decide))) hx.1
  rw [e, Zsh, ih (by omega), List.getElem?_eq_getElem (show m < ys.length by omega), Option.getD_some, ZAk, Int.mul_comm ys[m], wu64 hnn (by omega)]
  refine ZrI .u64 64 (by decide) wraps_u64 (8 * m) (by omega) _ _ hnn ?_ (by show _ < (18446744073709551616 : Int); omega) hv.1 ?_
  ·rw [ZAk]; exact Int.mul_emod_right _ _
  ·rw [ZAk]; exact hv.2
theorem Zxe (xs : List Int) (hb : Bytes xs) (g : Nat) : Ze8 xs g = ZDh xs g := by
 unfold Ze8 ZDh
 rw [Zyf _ ((hb.drop _).take _) (by rw [List.length_take]; omega) _ (Nat.le_refl _), List.take_of_length_le (Nat.le_refl _)]
noncomputable def ZAY (k : Int) (xs : List Int) (m g : Nat) (s : Int) : Int := (List.range' g m).foldl (fun s g => ZxW k (bits .xor .u64 s (ZDh xs g))) s
noncomputable def ZBt (k : Int) (xs : List Int) : Int := ZAY k xs (gN xs) 0 (ZxW k xs.length)
theorem ZAL (k : Int) (xs : List Int) : ∀ m g s, K64 s -> K64 (ZAY k xs m g s) := by
 intro m
 induction m with
 | zero => intro g s h; exact h
 | succ m ih =>
  intro g s h
  rw [ZAY, List.range'_succ]
  exact ih (g + 1) _ (ZsH _ _)
theorem ZwR (k : Int) (xs : List Int) : K64 (ZBt k xs) := ZAL _ _ _ _ _ (ZsH _ _)
theorem ZCY (k : Int) (xs : List Int) (hb : Bytes xs) (hl : xs.length <= 100000) : ZcY k xs = some (ZBt k xs) := by
 have key : ∀ (l : List Nat) (s : Int), l.foldlM (fun s g => Z1m k (bits .xor .u64 s (Ze8 xs g))) s = some (l.foldl (fun s g => ZxW k (bits .xor .u64 s (ZDh xs g))) s) := by
  intro l
  induction l with
  | nil => intro s; rfl
  | cons g l ih =>
   intro s
   rw [List.foldlM_cons, Zur, Zxe xs hb]
   exact ih _
 unfold ZcY ZBv ZBt ZAY
 rw [if_pos (by omega), Zur, Option.bind_some, key, List.range_eq_range']
theorem ZtO (k : Int) (hk : K64 k) (xs : List Int) (hb : Bytes xs) (hl : xs.length <= 100000) : ∀ (m g : Nat) (s : Int), m + g = gN xs -> ZT ZaC (.b1 k xs s ((8 * g : Nat) : Int)) = some (ZAY k xs m g s) := by
 intro m
 induction m with
 | zero =>
  intro g s hg
  unfold gN at hg
  refine (Zc _ _).trans ?_
  simp (disch := omega) only [ZaC, Tr.den, Zu, SL, SM]
  rfl
 | succ m ih =>
  intro g s hg
  have hg' := hg
  unfold gN at hg
  have hlt : 8 * g < xs.length := by omega
  refine (Zc _ _).trans ?_
  have e1 : (if (↑xs.length : Int) < (w64 (((8 * g : Nat) : Int) + 8)) then (↑xs.length : Int) else (w64 (((8 * g : Nat) : Int) + 8))) = ((min (8 * g + 8) xs.length : Nat) : Int) := by
   rw [Z1B (by omega) (by omega)]; split <;> omega
  have e2 : (xs.drop (8 * g)).take (min (8 * g + 8) xs.length - 8 * g) = (xs.drop (8 * g)).take 8 := by
   by_cases h : 8 * g + 8 <= xs.length
   ·rw [Nat.min_eq_left h, show 8 * g + 8 - 8 * g = 8 by omega]
   ·rw [List.take_of_length_le (by rw [List.length_drop]; omega), List.take_of_length_le (by rw [List.length_drop]; omega)]
  simp only [ZaC, Tr.den, Zu, e1]
  rw [decide_eq_true (show ((8 * g : Nat) : Int) < (xs.length : Int) by omega), decide_eq_true (show (0 : Int) <= ((min (8 * g + 8) xs.length : Nat) : Int) /\ ((min (8 * g + 8) xs.length : Nat) : Int) <= (xs.length : Int) by omega)]
  simp only [Int.toNat_natCast]
  rw [decide_eq_true (show (0 : Int) <= ((8 * g : Nat) : Int) /\ ((8 * g : Nat) : Int) <= ((min (8 * g + 8) xs.length : Nat) : Int) by omega), e2, ZAo _ ((hb.drop _).take _) (by rw [List.length_take]; omega)]
  simp only [cond_true, Option.bind_some]
  rw [Zqv k _ hk (b64 _ _ _), Option.bind_some, Z1B (by omega) (by omega), show ((8 * g : Nat) : Int) + 8 = ((8 * (g + 1) : Nat) : Int) by omega, ih (g + 1) _ (by omega)]
  rw [ZAY, ZAY, List.range'_succ]
  rfl
theorem ZxE (k : Int) (hk : K64 k) (xs : List Int) (hb : Bytes xs) (hl : xs.length <= 100000) : ZcV k xs = some (ZBt k xs) := (Zc _ _).trans (by
 simp only [ZaC, Tr.den, Zu]
 rw [wu64 (by omega) (by omega), Zqv k _ hk ⟨by omega, by omega⟩, Option.bind_some]
 exact ZtO k hk xs hb hl (gN xs) 0 _ (by omega))
end Go.Proofs.YtefmbgacbhifdaaGreat
namespace Go.Proofs.YtefmbgacbhifdaaGreat
open Go Go.Proofs.YtefmbgacbhifdaaGreat.Le
set_option maxRecDepth 100000
def lab (st : ByteArray) : List Int := st.data.toList.map fun b => (b.toNat : Int)
theorem Zwl (st : ByteArray) : Zz8 U 5 st = true := List.all_eq_true.2 fun b _ => rfl
theorem Znh (st : ByteArray) : Z2j U 5 st = lab st := by
 unfold Z2j lab
 induction st.data.toList with
 | nil => rfl
 | cons b l ih => exact congrArg (List.cons ((b.toNat : Nat) : Int)) ih
theorem ZpC (st : ByteArray) : Bytes (lab st) := fun x hx => by
 obtain ⟨b, _, rfl⟩ := List.mem_map.1 hx
 have : b.toNat < 256 := b.toNat_lt
 omega
theorem Zwz (st : ByteArray) : (lab st).length = st.size := by rw [lab, List.length_map, Array.length_toList]; rfl
theorem Zre (l : List Int) (n : Nat) : Bytes (l.flatMap (num n)) := Bytes.flat _ _ fun x _ => Z3E n x
theorem ZnK : Bytes [0] := Bytes.cons ⟨by decide, by decide⟩ Bytes.nil
noncomputable def Z4U (k : Int) (st : ByteArray) (parts : List Int) : Int := ZBt k (lab st ++ [0] ++ parts.flatMap (num 8))
theorem Z6E (k : Int) (st : ByteArray) (parts : List Int) : K64 (Z4U k st parts) := ZwR _ _
theorem Z59 (k : Int) (st : ByteArray) (parts : List Int) (hs : st.size <= 1000) (hp : ∀ x ∈ parts, K64 x) (hl : parts.length <= 100) : Z30 k st parts = some (Z4U k st parts) := (Zc _ _).trans (by
 have h1 := ZfI (num 8) 8 parts fun x _ => Z0U 8 x
 have h2 := Zwz st
 simp only [Zd5, Zwl, Znh, ZxS parts hp hl, Tr.den, Zu, SL, SM]
 rw [ZiU _ (by simp [h1, h2]; omega) (by simp)]
 simp only [Option.bind_some, List.flatten_cons, List.flatten_nil, List.append_nil]
 rw [ZCY k _ ((ZpC st).app (ZnK.app (Zre parts 8))) (by simp [h1, h2]; omega)]
 rw [Z4U, List.append_assoc]
 rfl)
theorem Z9j (k : Int) (hk : K64 k) (st : ByteArray) (parts : List Int) (hs : st.size <= 1000) (hp : ∀ x ∈ parts, K64 x) (hl : parts.length <= 100) : Z54 k st parts = some (Z4U k st parts) := (Zc _ _).trans (by
 have h1 := ZfI (num 8) 8 parts fun x _ => Z0U 8 x
 have h2 := Zwz st
 simp (disch := omega) only [Z57, Zwl, Znh, Tr.den, Zu, SL, SM]
 have := ZjU (fun s i => ZT Z57 (.b1 k parts s i)) parts (num 8) (fun s => ZcV k s) 5000 (fun i s hi hs => (Zc _ _).trans (by
   have hx := hp parts[i] (List.getElem_mem hi)
   rw [Z0U] at hs
   have h8 : ZgN 8 parts[i] = some ⟨num 8 parts[i]⟩ := v_Num 8 (by decide) _ hx
   simp (disch := omega) only [Z57, hi, h8, Z0U, Tr.den, Zu, SL, SM]))
  (fun s => (Zc _ _).trans (by
   simp only [Z57, Int.lt_irrefl, Tr.den, Zu, SL, SM]
   cases ZcV k s <;> rfl)) (lab st ++ [0]) (by rw [List.length_append, List.length_cons, List.length_nil, h1, h2]; omega)
 refine this.trans ?_
 rw [ZxE k hk _ (((ZpC st).app ZnK).app (Zre parts 8)) (by simp [h1, h2]; omega)]
 rfl)
noncomputable def ZB0 (k s : Int) : Nat -> List Int
 | 0 => []
 | i + 1 => ZB0 k s i ++ num 8 (ZxW k (IntKind.wrap .u64 (s + i)))
theorem Zp2 (k s : Int) (i : Nat) : (ZB0 k s i).length = 8 * i := by
 induction i with
 | zero => rfl
 | succ i ih => rw [ZB0, List.length_append, ih, Z0U]; omega
theorem ZuU (k s : Int) (i : Nat) : Bytes (ZB0 k s i) := by
 induction i with
 | zero => exact Bytes.nil
 | succ i ih => exact ih.app (Z3E _ _)
noncomputable def Z3Y (k nonce : Int) (n : Nat) : List Int := (ZB0 k (ZxW k nonce) ((n + 7) / 8)).take n
theorem Zbw (k nonce : Int) (n : Nat) : (Z3Y k nonce n).length = n := by
 rw [Z3Y, List.length_take, Zp2]; omega
theorem ZoW (k nonce : Int) (n : Nat) : Bytes (Z3Y k nonce n) := (ZuU _ _ _).take _
theorem Zp8 (x : Int) (h : K64 x) : Z4V [x] = some (num 8 x) := by
 rw [ZxS [x] (fun y hy => by rw [List.mem_singleton.1 hy]; exact h) (by simp)]
 simp
theorem Zp0 (k s : Int) (n : Nat) (hn : n <= 100000) : ∀ d i : Nat, i + d = (n + 7) / 8 -> ZT Z56 (.b1 k n s (ZB0 k s i) i) = some ((ZB0 k s ((n + 7) / 8)).take n) := by
 intro d
 induction d with
 | zero =>
  intro i hi
  obtain rfl : i = (n + 7) / 8 := by omega
  have hl := Zp2 k s ((n + 7) / 8)
  refine (Zc _ _).trans ?_
  have h2 : decide ((n : Int) <= ((8 * ((n + 7) / 8) : Nat) : Int)) = true := decide_eq_true (by omega)
  simp (disch := omega) only [Z56, hl, h2, List.drop_zero, Nat.sub_zero, Tr.den, Zu, SL, SM]
 | succ d ih =>
  intro i hi
  have hl := Zp2 k s i
  refine (Zc _ _).trans ?_
  have hlt : 8 * i < n := by omega
  simp (disch := omega) only [Z56, hl, hlt, Zur, Zp8 _ (ZsH _ _), Z0U, Tr.den, Zu, SL, SM]
  rw [wu64 (n := (i : Int) + 1) (by omega) (by omega)]
  exact ih (i + 1) (by omega)
theorem Zj3 (k nonce : Int) (n : Nat) (hn : n <= 100000) : Z9q k nonce n = some (Z3Y k nonce n) := (Zc _ _).trans (by
 have e : w64 ((n : Int) + 8) = ((n + 8 : Nat) : Int) := by rw [Z1B (by omega) (by omega)]; simp
 have h : decide ((0 : Int) <= 0 /\ (0 : Int) <= ((n + 8 : Nat) : Int) /\ Int.toNat ((n + 8 : Nat) : Int) * 1 <= lim /\ ((n + 8 : Nat) : Int) <= (↑maxLen : Int)) = true :=
  decide_eq_true ⟨by decide, by omega, by rw [Int.toNat_natCast]; exact Nat.le_trans (by omega) Zrc, by exact_mod_cast Nat.le_trans (show n + 8 <= 1000000000 by omega) Zao⟩
 simp only [Z56, Tr.den, Zu, Zur, Option.bind_some, e]
 rw [h]
 exact Zp0 k _ n hn ((n + 7) / 8) 0 (by omega))
def Z8t (a b : List Int) : List Int := List.zipWith (bits .xor .u8) a b
theorem ZbI (a b : List Int) : (Z8t a b).length = min a.length b.length := List.length_zipWith
theorem Zhy (a b : List Int) : Bytes (Z8t a b) := fun x hx => by
 obtain ⟨i, hi, rfl⟩ := List.getElem_of_mem hx
 simp only [Z8t, List.getElem_zipWith]
 exact b8 _ _ _
theorem ZB8 (ys : List Int) (i : Nat) (h : i < ys.length) : (ys.take i ++ List.replicate (ys.length - i) (0 : Int)).set i ys[i] = ys.take (i + 1) ++ List.replicate (ys.length - (i + 1)) 0 := by
 rw [show ys.length - i = (ys.length - (i + 1)) + 1 by omega, List.replicate_succ, List.set_append_right _ _ (by rw [List.length_take]; omega), List.length_take, Nat.min_eq_left (by omega), Nat.sub_self, List.set_cons_zero, List.take_add_one, List.getElem?_eq_getElem h, List.append_assoc]
 rfl
theorem Zor (a b : List Int) (ha : a.length <= 100000) : ∀ d i : Nat, i + d = (Z8t a b).length -> ZT Z5c (.b1 a b ((Z8t a b).take i ++ List.replicate ((Z8t a b).length - i) 0) (Z8t a b).length i) = some (Z8t a b) := by
 have hx := ZbI a b
 intro d
 induction d with
 | zero =>
  intro i hi
  obtain rfl : i = (Z8t a b).length := by omega
  refine (Zc _ _).trans ?_
  simp only [Z5c, Int.lt_irrefl, Nat.sub_self, List.replicate_zero, List.append_nil, List.take_length, Tr.den, Zu, SL, SM]
 | succ d ih =>
  intro i hi
  have hlt : i < (Z8t a b).length := by omega
  have h1 : i < a.length := by omega
  have h2 : i < b.length := by omega
  have hs := ZB8 (Z8t a b) i hlt
  have hb : bits .xor .u8 a[i] b[i] = (Z8t a b)[i] := by simp only [Z8t, List.getElem_zipWith]
  have hl : ((Z8t a b).take i ++ List.replicate ((Z8t a b).length - i) (0 : Int)).length = (Z8t a b).length := by
   rw [List.length_append, List.length_take, List.length_replicate]; omega
  rw [<- ih (i + 1) (by omega)]
  refine (Zc _ _).trans ?_
  generalize hO : (Z8t a b).take i ++ List.replicate ((Z8t a b).length - i) (0 : Int) = O at *
  simp (disch := omega) only [Z5c, Tr.den, Zu, Int.natCast_nonneg, Int.ofNat_lt, hlt, h1, h2, Int.toNat_natCast, List.getElem?_eq_getElem, Option.bind_some, decide_true, cond_true, true_and, hl, beq_self_eq_true, Bool.true_and, Nat.zero_le, List.length_set, Zp3, hb, hs]
theorem ZiM (a b : List Int) (ha : a.length <= 100000) : Z9y a b = some (Z8t a b) := (Zc _ _).trans (by
 have hx := ZbI a b
 have e : (if (↑b.length : Int) < (↑a.length : Int) then (↑b.length : Int) else (↑a.length : Int)) = ((Z8t a b).length : Int) := by rw [hx]; split <;> omega
 have h : decide (0 <= ((Z8t a b).length : Int) /\ ((Z8t a b).length : Int) <= ((Z8t a b).length : Int) /\ (Z8t a b).length * 1 <= lim /\ ((Z8t a b).length : Int) <= (↑maxLen : Int)) = true :=
  decide_eq_true ⟨by omega, by omega, Nat.le_trans (by omega) Zrc, by exact_mod_cast Nat.le_trans (show (Z8t a b).length <= 1000000000 by omega) Zao⟩
 simp only [Z5c, Tr.den, Zu, e, Int.toNat_natCast, h, cond_true, beq_self_eq_true, List.length_replicate]
 exact Zor a b ha _ 0 (Nat.zero_add _))
noncomputable def Zqf (k nonce : Int) (hd c : List Int) : List Int := num 4 (ZBt k (num 8 nonce ++ num 4 hd.length ++ hd ++ c))
noncomputable def Zj6 (k nonce : Int) (hd p : List Int) : List Int := Z8t p (Z3Y k nonce p.length) ++ Zqf k nonce hd (Z8t p (Z3Y k nonce p.length))
theorem Zgk (k nonce : Int) (hd c : List Int) : (Zqf k nonce hd c).length = 4 := Z0U _ _
theorem Zds (k nonce : Int) (hd p : List Int) : (Zj6 k nonce hd p).length = p.length + 4 := by
 rw [Zj6, List.length_append, ZbI, Zbw, Zgk, Nat.min_self]
theorem Zfy (k nonce : Int) (hd p : List Int) : Bytes (Zj6 k nonce hd p) := (Zhy _ _).app (Z3E _ _)
theorem Zn3 (k nonce : Int) (hx : K64 nonce) (hd c : List Int) (hh : Bytes hd) (hc : Bytes c) (hl : hd.length <= 1000) (hm : c.length <= 50000) : ZdN k nonce hd c = some (Zqf k nonce hd c) := (Zc _ _).trans (by
 simp only [Zih, ZtG (n := (hd.length : Int)) (by omega) (by omega), wu64 (n := (hd.length : Int)) (by omega) (by omega), Zp8 nonce hx, Tr.den, Zu, SL, SM]
 rw [ZAV [⟨4, hd.length⟩] (fun f hf => by
  rw [List.mem_singleton.1 hf]
  exact ⟨show (1 : Int) <= 4 by decide, show (4 : Int) <= 8 by decide, show (0 : Int) <= hd.length by omega, show (hd.length : Int) < 4294967296 by omega⟩) (by simp [Z68, Z0U]) (by simp)]
 simp only [Option.bind_some, List.flatMap_cons, List.flatMap_nil, List.append_nil, Z68, show Int.toNat 4 = 4 from rfl]
 rw [ZiU _ (by simp [Z0U]; omega) (by simp)]
 simp only [Option.bind_some, List.flatten_cons, List.flatten_nil, List.append_nil]
 rw [ZCY k _ ((Z3E _ _).app ((Z3E _ _).app (hh.app hc))) (by simp [Z0U]; omega)]
 simp only [Option.bind_some]
 rw [Zp8 _ (ZwR _ _)]
 simp only [Option.bind_some, Z0U]
 rw [show decide ((0 : Int) <= 4 /\ (4 : Int) <= ((8 : Nat) : Int)) = true from rfl]
 simp only [cond_true, List.drop_zero, show Int.toNat 4 - 0 = 4 from rfl, Zz3 4 8 _ (by decide), Zqf, List.append_assoc])
theorem ZnQ (k nonce : Int) (hx : K64 nonce) (hd p : List Int) (hh : Bytes hd) (hl : hd.length <= 1000) (hm : p.length <= 50000) : Zaf k nonce hd p = some (Zj6 k nonce hd p) := (Zc _ _).trans (by
 have e := ZbI p (Z3Y k nonce p.length)
 rw [Zbw, Nat.min_self] at e
 simp only [Zir, Zj3 k nonce p.length (by omega), ZiM p _ (by omega), Zn3 k nonce hx hd (Z8t p (Z3Y k nonce p.length)) hh (Zhy _ _) hl (by omega), Tr.den, Zu, SL, SM]
 rw [ZiU _ (by simp [Zgk, e]; omega) (by simp)]
 simp only [Option.bind_some, List.flatten_cons, List.flatten_nil, List.append_nil, Zj6])
def U32 (x : Int) : Prop := 0 <= x /\ x < 4294967296
def U16 (x : Int) : Prop := 0 <= x /\ x < 65536
noncomputable def ZeD (kind src seq iv : Int) : Int := Z4U 0 (⟨#[110, 111, 110, 99, 101]⟩ : ByteArray) [kind, src, seq, iv]
theorem Zsv {kind src seq iv : Int} (hk : K64 kind) (h1 : U16 src) (h2 : U32 seq) (h3 : U32 iv) : (∀ x ∈ [kind, src, seq, iv], K64 x) /\ [(IntKind.wrap .u64 (kind)), (IntKind.wrap .u64 (src)), (IntKind.wrap .u64 (seq)), (IntKind.wrap .u64 (iv))] = [kind, src, seq, iv] := by
 have a1 := h1.1; have a2 := h1.2; have a3 := h2.1; have a4 := h2.2; have a5 := h3.1; have a6 := h3.2
 refine ⟨fun x hx => ?_, ?_⟩
 ·simp only [List.mem_cons, List.not_mem_nil, or_false] at hx
  rcases hx with rfl | rfl | rfl | rfl
  ·exact hk
  all_goals exact ⟨by omega, by omega⟩
 ·rw [wu64 hk.1 hk.2, wu64 (by omega) (by omega), wu64 (by omega) (by omega), wu64 (by omega) (by omega)]
theorem Z5H {kind src seq iv : Int} (hk : K64 kind) (h1 : U16 src) (h2 : U32 seq) (h3 : U32 iv) : Z2M kind src seq iv = some (ZeD kind src seq iv) := (Zc _ _).trans (by
 obtain ⟨hp, he⟩ := Zsv hk h1 h2 h3
 have : Z8u [kind, src, seq, iv] = some (ZeD kind src seq iv) := (Zc _ _).trans (by
  simp only [Z8d, Tr.den, Zu, Z59 0 (⟨#[110, 111, 110, 99, 101]⟩ : ByteArray) [kind, src, seq, iv] (by decide) hp (by simp)]
  rfl)
 simp only [Z8e, he, this, Tr.den, Zu, SL, SM])
theorem Zh8 (a b c d : Int) : K64 (ZeD a b c d) := Z6E _ _ _
noncomputable def Z2W (k : Int) : Zn := ⟨k, Z4U k (⟨#[110, 105, 100]⟩ : ByteArray) [] % 128, Z4U k (⟨#[101, 110, 99, 114, 121, 112, 116]⟩ : ByteArray) [], Z4U k (⟨#[104, 105, 100, 101]⟩ : ByteArray) [], Z4U k (⟨#[98, 101, 97, 99, 111, 110]⟩ : ByteArray) []⟩
theorem Zjp (k : Int) : Z4J k = some (Z2W k) := (Zc _ _).trans (by
 have h := Z6E k (⟨#[110, 105, 100]⟩ : ByteArray) []
 have h1 := h.1
 simp only [Z7s, Tr.den, Zu]
 rw [Z59 k _ _ (by decide) (fun x hx => by cases hx) (by simp), Z59 k _ _ (by decide) (fun x hx => by cases hx) (by simp), Z59 k _ _ (by decide) (fun x hx => by cases hx) (by simp), Z59 k _ _ (by decide) (fun x hx => by cases hx) (by simp)]
 simp only [Option.bind_some, Int.tmod_eq_emod_of_nonneg h1]
 rw [Z1B (by omega) (by omega)]
 rfl)
noncomputable def Zge (app : Bool) (id : Zd) : Int := ZeD (if app then 1 else 2) id.Src id.Seq id.IV
noncomputable def Z36 (k : Int) (app : Bool) (id : Zd) (dst : Int) (b : List Int) : List Int := Zj6 k (Zge app id) (num 2 dst) b
structure ZyX (id : Zd) : Prop where
 src : U16 id.Src
 seq : U32 id.Seq
 iv : U32 id.IV
theorem ZAe {x : Int} (h : U16 x) : [(IntKind.wrap .u8 (x)), (IntKind.wrap .u8 ((Int.fdiv x (2 ^ (8 : Nat)))))] = num 2 x := by
 have h1 := h.1
 have h2 := h.2
 rw [Int.fdiv_eq_ediv_of_nonneg _ (by decide), IntKind.wrap_u8, IntKind.wrap_u8]
 rfl
theorem Zin (k : Int) (app : Bool) (id : Zd) (hid : ZyX id) (dst : Int) (hd : U16 dst) (b : List Int) (hl : b.length <= 50000) : Z6k k app id dst b = some (Z36 k app id dst b) := (Zc _ _).trans (by
 have key : Z3g app id dst = some (Zge app id, num 2 dst) := by
  have h : ∀ kind, K64 kind -> ZT Z2e (.b1 dst kind id) = some (ZeD kind id.Src id.Seq id.IV, num 2 dst) := fun kind hk => (Zc _ _).trans (by
   simp only [Z2e, Z5H hk hid.src hid.seq hid.iv, ZAe hd, Z0U, Tr.den, Zu, SL, SM])
  refine (Zc _ _).trans ?_
  cases app with
  | true => exact h 1 ⟨by decide, by decide⟩
  | false => exact h 2 ⟨by decide, by decide⟩
 simp only [Z6s, key, Tr.den, Zu, Option.bind_some, ZnQ k (Zge app id) (Zh8 _ _ _ _) (num 2 dst) b (Z3E _ _) (by rw [Z0U]; decide) hl]
 rfl)
end Go.Proofs.YtefmbgacbhifdaaGreat
namespace Go.Proofs.YtefmbgacbhifdaaGreat
open Go Go.Proofs.YtefmbgacbhifdaaGreat.Le
set_option maxRecDepth 100000
theorem ZlE (a x : Bool) : (bif a then some x else some false) = some (a && x) := by cases a <;> rfl
def Z47 (a : Int) : Bool := decide (a > 0) && decide (a <= 32767)
def Zad (a : Int) : Bool := decide (a >= 49152)
theorem Z7U (a : Int) : Z2p a = some (Z47 a) := (Zc _ _).trans (by simp only [ZaQ, Tr.den, Zu, ZlE, Z47])
theorem Za4 (a : Int) : Z4G a = some (Zad a) := (Zc _ _).trans rfl
def Zig (p : Zm) : Int := if (p.Payload.length : Int) > 16 then 4 else 0
def Zi9 (p : Zm) : Int := if Z47 p.Src = false then 1 else if Z47 p.Dst = false /\ Zad p.Dst = false then 1 else if p.Payload = [] then 1 else Zig p
def checkN (p : Zm) : Int := if p.NID < 0 then 5 else if p.NID >= 128 then 5 else if p.TTL < 0 then 5 else if p.TTL > 127 then 5 else if p.Seq > 16777215 then 5 else Zi9 p
theorem len0 {α : Type} (l : List α) : ((l.length : Int) == 0) = decide (l = []) := by
 cases l with
 | nil => rfl
 | cons a l => simp; omega
theorem Z6L (p : Prop) [Decidable p] (a b : Int) : (if p then some a else some b) = some (if p then a else b) := by split <;> rfl
theorem Zej (p : Zm) : Z6S p = some (checkN p) := by
 have h2 : ZT Z2w (.b2 p) = some (Zig p) := (Zc _ _).trans (by simp only [Z2w, Tr.den, Zu, Bool.cond_decide, Z6L, Zig])
 have h1 : ZT Z2w (.b1 p) = some (Zi9 p) := (Zc _ _).trans (by
  simp only [Z2w, Tr.den, Zu, Z7U, Za4, Option.bind_some, h2, Zi9, len0]
  cases Z47 p.Src <;> cases Z47 p.Dst <;> cases Zad p.Dst <;> by_cases hp : p.Payload = [] <;> simp [hp])
 refine (Zc _ _).trans ?_
 simp only [Z2w, Tr.den, Zu, h1, Bool.cond_decide, Z6L, checkN]
structure Zua (p : Zm) : Prop where
 nid : 0 <= p.NID /\ p.NID <= 127
 ttl : 0 <= p.TTL /\ p.TTL <= 127
 seq : p.Seq <= 16777215
 len : 0 < p.Payload.length /\ p.Payload.length <= 16
theorem Zgj {p : Zm} (h : checkN p = 0) : Zua p := by
 unfold checkN Zi9 Zig at h
 repeat' split at h
 all_goals first | (exfalso; revert h; decide) | skip
 rename_i a b c d e f g i j
 have := List.length_pos_iff.2 i
 exact ⟨by omega, by omega, by omega, by omega⟩
def ctl (p : Zm) : Int := if p.Control then p.TTL + 128 else p.TTL
theorem ZtA {p : Zm} (h : Zua p) : 0 <= ctl p /\ ctl p < 256 := by
 have := h.ttl
 unfold ctl
 split <;> omega
theorem ZbY (p : Zm) (h : Zua p) : Z4I p = some (ctl p) := (Zc _ _).trans (by
 have := h.ttl
 simp only [Z7t, Tr.den, Zu, ctl]
 rw [wu8 (by omega) (by omega), ZrI .u8 8 (by decide) wraps_u8 7 (by decide) p.TTL 128 (by decide) (by decide) (by decide) (by omega) (by show p.TTL < 128; omega)]
 cases p.Control <;> rfl)
def Zf9 (o : ZB) : List Int := [o.x0, o.x1, o.x2, o.x3, o.x4, o.x5]
theorem Zpc (a b : ZB) : ∃ c, Z49 a b = some c /\ Zf9 c = Z8t (Zf9 a) (Zf9 b) :=
 ⟨⟨bits .xor .u8 a.x0 b.x0, bits .xor .u8 a.x1 b.x1, bits .xor .u8 a.x2 b.x2, bits .xor .u8 a.x3 b.x3, bits .xor .u8 a.x4 b.x4, bits .xor .u8 a.x5 b.x5⟩,
  (Zc _ _).trans ((Zc Z0I (.b1 0 a b Z0V)).trans ((Zc Z0I (.b1 1 _ b Z0V)).trans ((Zc Z0I (.b1 2 _ b Z0V)).trans ((Zc Z0I (.b1 3 _ b Z0V)).trans ((Zc Z0I (.b1 4 _ b Z0V)).trans ((Zc Z0I (.b1 5 _ b Z0V)).trans ((Zc Z0I (.b1 6 _ b Z0V)).trans rfl))))))), rfl⟩
theorem mask6 (x : Int) (z : ZB) : ∃ c, ZT Z19 (.b1 x 0 Z0V z) = some c /\ Zf9 c = num 6 x := by
 have h : ∀ j : Nat, j <= 8 -> IntKind.wrap .u8 (Int.fdiv x (2 ^ (min (Int.toNat (w64 ((8 : Int) * (j : Int)))) (IntKind.bits .u64)))) = x / 256 ^ j % 256 := fun j hj => by rw [sh8 x j hj, IntKind.wrap_u8]
 refine ⟨_, (Zc Z19 (.b1 x 0 _ z)).trans ((Zc Z19 (.b1 x 1 _ _)).trans ((Zc Z19 (.b1 x 2 _ _)).trans ((Zc Z19 (.b1 x 3 _ _)).trans ((Zc Z19 (.b1 x 4 _ _)).trans ((Zc Z19 (.b1 x 5 _ _)).trans ((Zc Z19 (.b1 x 6 _ _)).trans rfl)))))), ?_⟩
 refine Eq.trans (b := [x / 256 ^ 0 % 256, x / 256 ^ 1 % 256, x / 256 ^ 2 % 256, x / 256 ^ 3 % 256, x / 256 ^ 4 % 256, x / 256 ^ 5 % 256]) ?_ ?_
 ·rw [<- h 0 (by decide), <- h 1 (by decide), <- h 2 (by decide), <- h 3 (by decide), <- h 4 (by decide), <- h 5 (by decide)]
  rfl
 ·simp only [num, Int.ediv_ediv_of_nonneg (show (0 : Int) <= 256 by decide)]
  simp [Int.ediv_ediv_of_nonneg]
def Zxt : List Int -> List Int -> List Int
 | [], _ => []
 | n :: ns, b => val (b.take n.toNat) :: Zxt ns (b.drop n.toNat)
def ZnZ (ns : List Int) : Nat := (ns.map Int.toNat).sum
theorem Zle (a b : List Int) : ZnZ (a ++ b) = ZnZ a + ZnZ b := by simp [ZnZ]
theorem take1 (b : List Int) (hb : Bytes b) (out sz : List Int) (n : Int) (m i : Nat) (L : Int) (hm : m <= 8) (hn : n = m) (hmb : m <= b.length) (ho : out.length <= 1000) (hi : i <= 1000) : ∀ d j : Nat, j + d = m ->
  ZT Z0q (.b3 b out n (val (b.take j)) sz L i n j) = ZT Z0q (.b2 (b.drop m) (out ++ [val (b.take m)]) sz L ((i + 1 : Nat) : Int)) := by
 subst hn
 intro d
 induction d with
 | zero =>
  intro j hj
  obtain rfl : j = m := by omega
  refine (Zc _ _).trans ?_
  have h1 : decide ((j : Int) <= (b.length : Int)) = true := decide_eq_true (by omega)
  have h2 : (b.drop j).take (b.length - j) = b.drop j := List.take_of_length_le (by rw [List.length_drop]; omega)
  simp (disch := omega) only [Z0q, Int.lt_irrefl, h1, h2, Tr.den, Zu, SL, SM]
 | succ d ih =>
  intro j hj
  have hj' : j < m := by omega
  have hjb : j < b.length := by omega
  have hx := hb.get j hjb
  have hv := Zvn (hb.take j)
  have hv2 := Zqz (hb.take (j + 1)) (by rw [List.length_take]; omega)
  have e : val (b.take (j + 1)) = val (b.take j) + 256 ^ j * b[j] := by
   rw [List.take_add_one, List.getElem?_eq_getElem hjb, val_append]
   simp [val, Nat.min_eq_left (show j <= b.length by omega)]
  rw [List.length_take, Nat.min_eq_left (by omega)] at hv
  rw [e] at hv2
  have hnn : 0 <= 256 ^ j * b[j] := Int.mul_nonneg (Int.le_of_lt (by exact_mod_cast Nat.pow_pos (by decide))) hx.1
  rw [<- ih (j + 1) (by omega)]
  refine (Zc _ _).trans ?_
  have h1 : decide (0 <= w64 (8 * (j : Int))) = true := decide_eq_true (by rw [Z1B (by omega) (by omega)]; omega)
  have h3 : bits .or .u64 (val (b.take j)) (IntKind.wrap .u64 ((IntKind.wrap .u64 (b[j])) * 2 ^ (min (Int.toNat (w64 ((8 : Int) * (j : Int)))) (IntKind.bits .u64)))) = val (b.take (j + 1)) := by
   rw [Z1B (by omega) (by omega), show Int.toNat (8 * (j : Int)) = 8 * j by omega, show min (8 * j) (IntKind.bits .u64) = 8 * j from Nat.min_eq_left (by show 8 * j <= 64; omega), ZAk, wu64 (n := b[j]) (by omega) (by omega), Int.mul_comm b[j], wu64 hnn (by omega), e]
   refine ZrI .u64 64 (by decide) wraps_u64 (8 * j) (by omega) _ _ hnn ?_ (by show _ < (18446744073709551616 : Int); omega) hv.1 ?_
   ·rw [ZAk]; exact Int.mul_emod_right _ _
   ·rw [ZAk]; exact hv.2
  simp (disch := omega) only [Z0q, hj', hjb, h1, h3, Tr.den, Zu, SL, SM]
theorem take2 (sz : List Int) : ∀ (ns done b out : List Int), sz = done ++ ns -> Bytes b -> (∀ n ∈ ns, 1 <= n /\ n <= 8) -> ZnZ ns <= b.length -> out.length = done.length -> sz.length <= 100 -> b.length <= 100000 ->
  ZT Z0q (.b2 b out sz sz.length done.length) = some (out ++ Zxt ns b, b.drop (ZnZ ns), 0) := by
 intro ns
 induction ns with
 | nil =>
  intro done b out hz hb hn hs ho hl hbl
  refine (Zc _ _).trans ?_
  rw [List.append_nil] at hz
  subst hz
  simp only [Z0q, Int.lt_irrefl, Tr.den, Zu, SL, SM]
  rw [ZiU [b] (by simpa using hbl) (by simp)]
  simp [Zxt, ZnZ]
 | cons n ns ih =>
  intro done b out hz hb hn hs ho hl hbl
  have hlt : done.length < sz.length := by rw [hz]; simp
  have hget : sz[done.length] = n := by simp [hz]
  have h1 := hn n List.mem_cons_self
  have hsum : ZnZ (n :: ns) = n.toNat + ZnZ ns := by simp [ZnZ]
  rw [hsum] at hs
  refine (Zc _ _).trans ?_
  simp (disch := omega) only [Z0q, hlt, hget, Tr.den, Zu, SL, SM]
  have := take1 b hb out sz n n.toNat done.length sz.length (by omega) (by omega) (by omega) (by omega) (by omega) n.toNat 0 (by omega)
  simp only [List.take_zero, val] at this
  refine this.trans ?_
  have h2 := ih (done ++ [n]) (b.drop n.toNat) (out ++ [val (b.take n.toNat)]) (by simp [hz]) (hb.drop _) (fun m hm => hn m (List.mem_cons_of_mem _ hm)) (by rw [List.length_drop]; omega) (by simp [ho]) hl (by rw [List.length_drop]; omega)
  rw [List.length_append] at h2
  refine h2.trans ?_
  rw [hsum, Zxt, List.drop_drop, List.append_assoc]
  rfl
theorem ZBU (sz b : List Int) (hb : Bytes b) (hn : ∀ n ∈ sz, 1 <= n /\ n <= 8) (hs : ZnZ sz <= b.length) (hl : sz.length <= 100) (hbl : b.length <= 100000) : Z4i b sz = some (Zxt sz b, b.drop (ZnZ sz), 0) := (Zc _ _).trans (by
 simp only [Z0q, Tr.den, Zu, SL, SM]
 have key := Zam (fun (s : Int) i => ZT Z0q (.b1 b sz s sz sz.length i)) sz (fun s x => s + x) (fun s => if (b.length : Int) < s then some ([], [], 3) else ZT Z0q (.b2 b [] sz sz.length 0))
  (fun i s => s = ZnZ (sz.take i)) (fun i s h hi => by
   have h1 := hn sz[i] (List.getElem_mem h)
   have e : ZnZ (sz.take (i + 1)) = ZnZ (sz.take i) + sz[i].toNat := by
    rw [List.take_add_one, List.getElem?_eq_getElem h, Zle]
    rfl
   have e2 : ZnZ (sz.take (i + 1)) <= ZnZ sz := by
    have h2 := Zle (sz.take (i + 1)) (sz.drop (i + 1))
    rw [List.take_append_drop] at h2
    omega
   refine ⟨?_, by omega⟩
   refine (Zc _ _).trans ?_
   simp (disch := omega) only [Z0q, h, ZvC _ h1.1 h1.2, Tr.den, Zu, SL, SM]
   rw [Z1B (by omega) (by omega)])
  (fun s hs' => (Zc _ _).trans (by
   simp only [Z0q, Int.lt_irrefl, Tr.den, Zu, SL, SM]
   by_cases hc : (b.length : Int) < s
   ·simp [hc]
   ·simp [hc])) 0 (by simp [ZnZ])
 rw [key.1, key.2, List.take_length, if_neg (by omega)]
 exact take2 sz sz [] b [] rfl hb hn hs rfl hl hbl)
noncomputable def Zsl (k : Zn) (iv : Int) (sealed : List Int) : List Int := num 6 (Z4U k.Hide (⟨#[104, 105, 100, 101]⟩ : ByteArray) [iv, val (sealed.take 7)])
def Zla (p : Zm) : List Int := [ctl p] ++ num 3 p.Seq ++ num 2 p.Src
noncomputable def Z39 (k : Zn) (p : Zm) : List Int := Zj6 k.Zfd (ZeD 0 p.Src p.Seq p.IV) [ctl p] (num 2 p.Dst ++ p.Payload)
noncomputable def Z9I (k : Zn) (p : Zm) : List Int := [p.NID + p.IV % 2 * 128] ++ Z8t (Zla p) (Zsl k p.IV (Z39 k p)) ++ Z39 k p
noncomputable def ZgK (k : Zn) (p : Zm) : List Int × Int := if checkN p = 0 then (if p.NID = k.NID then (Z9I k p, 0) else ([], 17)) else ([], checkN p)
structure ZqL (p : Zm) : Prop where
 iv : U32 p.IV
 seq : U32 p.Seq
 src : U16 p.Src
 dst : U16 p.Dst
theorem Zbz (k : Zn) (p : Zm) : (Z39 k p).length = p.Payload.length + 6 := by rw [Z39, Zds, List.length_append, Z0U]; omega
theorem Zv9 {iv : Int} {s : List Int} (hi : U32 iv) (hs : Bytes s) : (∀ x ∈ [iv, val (s.take 7)], K64 x) /\ IntKind.wrap .u64 iv = iv := by
 have h1 := hi.1
 have h2 := hi.2
 refine ⟨fun x hx => ?_, wu64 (by omega) (by omega)⟩
 simp only [List.mem_cons, List.not_mem_nil, or_false] at hx
 rcases hx with rfl | rfl
 ·exact ⟨by omega, by omega⟩
 ·exact Zqz (hs.take 7) (by rw [List.length_take]; omega)
theorem Zkv (p : Zm) (h : Zua p) (hr : ZqL p) : ∃ o, Z8s p = some o /\ Zf9 o = Zla p := by
 refine ⟨_, (Zc _ _).trans (by simp only [Z8j, Tr.den, Zu, ZbY p h, Option.bind_some]; rfl), ?_⟩
 have e : ∀ a : Int, ∀ n : Nat, IntKind.wrap .u8 (Int.fdiv a (2 ^ n)) = a / 2 ^ n % 256 := fun a n => by rw [Int.fdiv_eq_ediv_of_nonneg _ (Int.le_of_lt (by exact_mod_cast Nat.pow_pos (by decide))), IntKind.wrap_u8]
 show [ctl p, _, _, _, _, _] = _
 simp only [e, IntKind.wrap_u8]
 simp only [Zla, num, List.cons_append, List.nil_append]
 rw [Int.ediv_ediv_of_nonneg (by decide)]
 rfl
theorem Zh0 (k : Zn) (iv : Int) (hi : U32 iv) (s : List Int) (hs : Bytes s) (hl : 7 <= s.length) (hl' : s.length <= 1000) : ∃ c, Z80 k iv s = some c /\ Zf9 c = Zsl k iv s := by
 obtain ⟨hp, he⟩ := Zv9 hi hs
 obtain ⟨c, h1, h2⟩ := mask6 (Z4U k.Hide (⟨#[104, 105, 100, 101]⟩ : ByteArray) [iv, val (s.take 7)]) Z0V
 refine ⟨c, (Zc _ _).trans ?_, h2⟩
 have ht : Z4i s [7] = some ([val (s.take 7)], s.drop 7, 0) := ZBU [7] s hs (fun n hn => by rw [List.mem_singleton.1 hn]; decide) (by simpa [ZnZ] using hl) (by simp) (by omega)
 simp only [Z19, ht, he, Tr.den, Zu, Option.bind_some, List.length_cons, List.length_nil, beq_self_eq_true, cond_true]
 rw [show decide ((0 : Int) <= 0 /\ (0 : Int) < (((0 + 1 : Nat) : Nat) : Int)) = true from rfl, show ([val (s.take 7)])[Int.toNat 0]? = some (val (s.take 7)) from rfl]
 simp only [cond_true, Option.bind_some]
 rw [Z59 k.Hide (⟨#[104, 105, 100, 101]⟩ : ByteArray) [iv, val (s.take 7)] (by decide) hp (by simp)]
 exact h1
theorem and1 (x : Int) (h : U32 x) : bits .and .u32 x 1 = x % 2 := bits_mask .u32 32 (by decide) wraps_u32 1 (by decide) x h.1 h.2
theorem headB (nid iv : Int) (h : 0 <= nid /\ nid <= 127) (hi : U32 iv) : bits .or .u8 (IntKind.wrap .u8 nid) (IntKind.wrap .u8 ((IntKind.wrap .u8 (bits .and .u32 iv 1)) * 2 ^ (7 : Nat))) = nid + iv % 2 * 128 := by
 have := hi.1
 rw [and1 iv hi, wu8 (n := nid) (by omega) (by omega), wu8 (n := iv % 2) (by omega) (by omega), show (2 : Int) ^ (7 : Nat) = 128 from rfl, wu8 (by omega) (by omega)]
 exact ZrI .u8 8 (by decide) wraps_u8 7 (by decide) nid (iv % 2 * 128) (by omega) (by show iv % 2 * 128 % 128 = 0; omega) (by show _ < (256 : Int); omega) h.1 (by show nid < 128; omega)
theorem Zy2 (x : Int) : (x != 0) = !decide (x = 0) := by cases h : decide (x = 0) <;> simp_all
theorem Zlp (k : Zn) (p : Zm) (hr : ZqL p) : Z5o k p = some (ZgK k p) := (Zc _ _).trans (by
 simp only [Z8g, Zej, Zy2, Tr.den, Zu, Option.bind_some, ZgK]
 by_cases hc : checkN p = 0
 ·have hn := Zgj hc
  simp only [hc, decide_true, Bool.not_true, cond_false, if_true]
  by_cases hk : p.NID = k.NID
  ·rw [show (p.NID != k.NID) = false by simp [hk], if_pos hk]
   have hl := Zbz k p
   have hlen := hn.len
   obtain ⟨o, ho, ho'⟩ := Zkv p hn hr
   obtain ⟨c, hm, hm'⟩ := Zh0 k p.IV hr.iv (Z39 k p) (Zfy _ _ _ _) (by omega) (by omega)
   obtain ⟨x, hx, hx'⟩ := Zpc o c
   have hseal : Zaf k.Zfd (ZeD 0 p.Src p.Seq p.IV) [ctl p] (num 2 p.Dst ++ p.Payload) = some (Z39 k p) := ZnQ _ _ (Zh8 _ _ _ _) _ _ (Bytes.cons (ZtA hn) Bytes.nil) (by simp) (by rw [List.length_append, Z0U]; omega)
   have hj : ZN [num 2 p.Dst, p.Payload] = some (num 2 p.Dst ++ p.Payload) := by rw [ZiU _ (by simp [Z0U]; omega) (by simp)]; simp
   have hj2 : ZN [[p.NID + p.IV % 2 * 128], List.take 6 [x.x0, x.x1, x.x2, x.x3, x.x4, x.x5], Z39 k p] = some (Z9I k p) := by
    have e6 : List.take 6 [x.x0, x.x1, x.x2, x.x3, x.x4, x.x5] = Zf9 x := rfl
    rw [e6, ZiU _ (by simp [Zf9, hl]; omega) (by simp)]
    simp [Z9I, hx', ho', hm']
   simp only [cond_false, ZAe hr.dst, Z0U, List.length_cons, List.length_nil, beq_self_eq_true, cond_true, hj, Option.bind_some, Z5H (kind := 0) ⟨by decide, by decide⟩ hr.src hr.seq hr.iv, ZbY p hn, hseal, ho, hm, hx, headB p.NID p.IV hn.nid hr.iv, hj2]
  ·rw [show (p.NID != k.NID) = true by simp [hk], if_neg hk]
   rfl
 ·rw [if_neg hc, decide_eq_false hc]
  rfl)
structure KeyRg (k : Zn) : Prop where
 enc : K64 k.Zfd
 hide : K64 k.Hide
end Go.Proofs.YtefmbgacbhifdaaGreat
namespace Go.Proofs.YtefmbgacbhifdaaGreat
open Go Go.Proofs.YtefmbgacbhifdaaGreat.Le
set_option maxRecDepth 100000
def Zkj (l : Zj) : Bool :=
 bif l.Control then
  (bif l.Z4F == 0 then !l.Z1Z && (!l.App && ((l.Index == 0) && (l.Last == 0)))
   else !l.Z1Z && (!l.App && ((l.Zero == 0) && ((l.Index == 0) && ((l.Last == 0) && ((l.Block == 0) && !l.Z4))))))
 else bif l.Z1Z then (l.Z4F == 0) && ((l.Block == 0) && !l.Z4)
 else (l.Z4F == 0) && ((l.Zero == 0) && ((l.Index == 0) && ((l.Last == 0) && ((l.Block == 0) && !l.Z4))))
def ZqO (l : Zj) : Bool := l.Control && (l.Z4F == 0)
theorem Zah (l : Zj) : Z4b l = some (ZqO l) := (Zc _ _).trans (by simp only [Z6d, Tr.den, Zu, ZlE, ZqO])
def Zst (l : Zj) : Bool := Zkj l && (!ZqO l || decide (l.Bytes = []))
theorem Zjg (l : Zj) : Z7F l = some (Zst l) := (Zc _ _).trans (by
 simp only [Z7w, Zah, Tr.den, Zu, ZlE, len0, Option.bind_some, Zst, Zkj, ZqO]
 cases l.Control <;> cases l.Z4F == 0 <;> cases l.Z1Z <;> simp [Bool.and_assoc])
def ZhL (lo hi : Int) (l : Zj) : Int := if (l.Bytes.length : Int) < lo then 1 else if (l.Bytes.length : Int) > hi then 4 else 0
def Zna (l : Zj) (x : Int) : Int := if l.Zero < 0 then 5 else if l.Zero >= 8192 then 5 else if l.Last < 0 then 5 else if l.Last >= 32 then 5 else if l.Index < 0 then 5 else if l.Index > l.Last then 5 else x
def Zdx (lo hi : Int) (l : Zj) : Int := if Zst l = false then 1 else Zna l (ZhL lo hi l)
def Z9E (lo hi : Int) (l : Zj) : Int := if l.Control = true then (if l.Z4F < 0 then 12 else if l.Z4F >= 9 then 12 else Zdx lo hi l) else Zdx lo hi l
def ZcE (l : Zj) : Int := if l.Control = true then Z9E 0 15 l else if l.Z1Z = true then (if l.Index < l.Last then Z9E 12 12 l else Z9E 1 12 l) else Z9E 1 15 l
theorem Ztf {α : Type} (b : Bool) (x y : α) : cond b x y = if b = true then x else y := by cases b <;> rfl
theorem Z6w (l : Zj) : Z1O l = some (ZcE l) := by
 have h3 : ∀ lo hi, ZT Z0J (.b3 lo hi l) = some (ZhL lo hi l) := fun lo hi => (Zc _ _).trans (by simp only [Z0J, Tr.den, Zu, Bool.cond_decide, Z6L, ZhL])
 have h2 : ∀ lo hi, ZT Z0J (.b2 lo hi l) = some (Zdx lo hi l) := fun lo hi => (Zc _ _).trans (by
  simp only [Z0J, Tr.den, Zu, Zjg, Option.bind_some, h3, Bool.cond_decide, Z6L, Zdx, Zna]
  cases Zst l <;> simp)
 have h1 : ∀ lo hi, ZT Z0J (.b1 lo hi l) = some (Z9E lo hi l) := fun lo hi => (Zc _ _).trans (by simp only [Z0J, Tr.den, Zu, h2, Bool.cond_decide, Ztf, Z6L, decide_eq_true_eq, Z9E])
 refine (Zc _ _).trans ?_
 simp only [Z0J, Tr.den, Zu, h1, Bool.cond_decide, Ztf, Z6L, decide_eq_true_eq, ZcE]
structure ZCV (l : Zj) : Prop where
 zero : 0 <= l.Zero /\ l.Zero <= 8191
 last : 0 <= l.Last /\ l.Last <= 31
 index : 0 <= l.Index /\ l.Index <= l.Last
 len : l.Bytes.length <= 15
 op : l.Control = true -> 0 <= l.Z4F /\ l.Z4F <= 8
 head : Zkj l = true
theorem ZwV {l : Zj} {x : Int} (h : Zna l x = 0) : (0 <= l.Zero /\ l.Zero <= 8191) /\ (0 <= l.Last /\ l.Last <= 31) /\ (0 <= l.Index /\ l.Index <= l.Last) /\ x = 0 := by
 unfold Zna at h
 repeat' split at h
 all_goals first | (exfalso; revert h; decide) | skip
 exact ⟨by omega, by omega, by omega, h⟩
theorem Zn4 {lo hi : Int} {l : Zj} (h : Zdx lo hi l = 0) (hhi : hi <= 15) : (0 <= l.Zero /\ l.Zero <= 8191) /\ (0 <= l.Last /\ l.Last <= 31) /\ (0 <= l.Index /\ l.Index <= l.Last) /\ l.Bytes.length <= 15 /\ Zkj l = true := by
 unfold Zdx at h
 split at h
 ·cases h
 ·rename_i hr
  obtain ⟨h1, h2, h3, h4⟩ := ZwV h
  refine ⟨h1, h2, h3, ?_, ?_⟩
  ·unfold ZhL at h4
   repeat' split at h4
   ·cases h4
   ·cases h4
   ·omega
  ·cases hh : Zkj l with
   | true => rfl
   | false => simp [Zst, hh] at hr
theorem Zvu {l : Zj} (h : ZcE l = 0) : ZCV l := by
 have key : ∀ lo hi, hi <= 15 -> Z9E lo hi l = 0 -> ZCV l := fun lo hi hhi h => by
  unfold Z9E at h
  split at h
  ·rename_i hc
   split at h
   ·cases h
   ·split at h
    ·cases h
    ·obtain ⟨h1, h2, h3, h4, h5⟩ := Zn4 h hhi
     exact ⟨h1, h2, h3, h4, fun _ => by omega, h5⟩
  ·rename_i hc
   obtain ⟨h1, h2, h3, h4, h5⟩ := Zn4 h hhi
   exact ⟨h1, h2, h3, h4, fun h => absurd h hc, h5⟩
 unfold ZcE at h
 repeat' split at h
 ·exact key _ _ (by decide) h
 ·exact key _ _ (by decide) h
 ·exact key _ _ (by decide) h
 ·exact key _ _ (by decide) h
def encT (l : Zj) : List Int :=
 if ZqO l = true then num 1 0 ++ num 2 (l.Zero + (if l.Z4 = true then 8192 else 0)) ++ num 4 l.Block ++ l.Bytes
 else if l.Control = true then num 1 l.Z4F ++ l.Bytes
 else if l.Z1Z = true then num 1 (128 + if l.App = true then 64 else 0) ++ num 3 (l.Zero + l.Index * 8192 + l.Last * 262144) ++ l.Bytes
 else num 1 (if l.App = true then 64 else 0) ++ l.Bytes
def Zjr (l : Zj) : List Int × Int := if ZcE l = 0 then (encT l, 0) else ([], ZcE l)
theorem ZjH (b : Bool) (n : Int) : Z3i b n = some (if b = true then n else 0) := (Zc _ _).trans (by cases b <;> rfl)
theorem Zw0 (b : Bool) (n : Int) (h : 0 <= n) : 0 <= (if b = true then n else 0) /\ (if b = true then n else 0) <= n := by split <;> omega
def FOK (f : Zx) : Prop := 1 <= f.Size /\ f.Size <= 8 /\ 0 <= f.Value /\ f.Value < 256 ^ f.Size.toNat
theorem fok {s v : Int} (n : Nat) (hs : s = n) (h1 : 1 <= n) (h8 : n <= 8) (h0 : 0 <= v) (hv : v < 256 ^ n) : FOK ⟨s, v⟩ := by
 subst hs
 exact ⟨show (1 : Int) <= (n : Int) by omega, show (n : Int) <= 8 by omega, h0, by show v < 256 ^ Int.toNat (n : Int); rw [Int.toNat_natCast]; exact hv⟩
theorem ZDo {f : Zx} (h : FOK f) : ∀ x ∈ [f], FOK x := fun x hx => by rw [List.mem_singleton.1 hx]; exact h
theorem fokc {f : Zx} {l : List Zx} (h : FOK f) (hl : ∀ x ∈ l, FOK x) : ∀ x ∈ f :: l, FOK x := fun x hx => by
 rcases List.mem_cons.1 hx with rfl | hx
 ·exact h
 ·exact hl x hx
theorem ZdR (fs : List Zx) (bs : List Int) (hf : ∀ f ∈ fs, FOK f) (hl : (fs.flatMap Z68).length <= 1000) (hn : fs.length <= 1000) (hb : bs.length <= 1000) :
  (Z2Y fs).bind (fun x1 => (ZN [x1.1, bs]).bind fun x2 => some (x2, (0 : Int))) = some (fs.flatMap Z68 ++ bs, 0) := by
 rw [ZAV fs hf hl hn, Option.bind_some]
 show (ZN [fs.flatMap Z68, bs]).bind _ = _
 rw [ZiU _ (by rw [List.flatten_cons, List.flatten_cons, List.flatten_nil, List.append_nil, List.length_append]; omega) (by simp)]
 simp
theorem Zgx (l : Zj) (hblk : U32 l.Block) : Z5r l = some (Zjr l) := (Zc _ _).trans (by
 simp only [Z2r, Z6w, Zah, ZjH, Zy2, Tr.den, Zu, Option.bind_some, Zjr]
 by_cases hc : ZcE l = 0
 ·have h := Zvu hc
  have h1 := h.zero; have h2 := h.last; have h3 := h.index; have h4 := h.len; have h5 := hblk.1; have h6 := hblk.2
  have b1 : ∀ fs : List Zx, ZT Z2r (.b1 fs l) = (Z2Y fs).bind (fun x1 => (ZN [x1.1, l.Bytes]).bind fun x2 => some (x2, (0 : Int))) := fun fs => (Zc _ _).trans (by
   simp only [Z2r, Tr.den, Zu, beq_self_eq_true, cond_true, List.length_cons, List.length_nil]
   rfl)
  simp only [hc, decide_true, Bool.not_true, cond_false, if_true, b1, List.length_cons, List.length_nil, beq_self_eq_true, cond_true]
  have f1 := Zw0 l.Z4 8192 (by decide)
  have f2 := Zw0 l.App 64 (by decide)
  unfold encT
  cases ha : ZqO l with
  | true =>
   simp only [cond_true, if_true]
   rw [wu64 (n := l.Zero) (by omega) (by omega), wu64 (n := l.Zero + _) (by omega) (by omega), wu64 (n := l.Block) (by omega) (by omega)]
   rw [ZdR _ _ (fokc (fok (s := 1) 1 rfl (by decide) (by decide) (by decide) (by decide)) (fokc (fok (s := 2) 2 rfl (by decide) (by decide) (by omega) (by show _ < (65536 : Int); omega)) (ZDo (fok (s := 4) 4 rfl (by decide) (by decide) h5 h6)))) (by simp [Z68, Z0U]) (by simp) (by omega)]
   simp [Z68, List.append_assoc]
  | false =>
   simp only [cond_false, Bool.false_eq_true, if_false]
   cases hcn : l.Control with
   | true =>
    have h7 := h.op hcn
    simp only [cond_true, if_true]
    rw [wu64 (n := l.Z4F) (by omega) (by omega), ZdR _ _ (ZDo (fok (s := 1) 1 rfl (by decide) (by decide) h7.1 (by show _ < (256 : Int); omega))) (by simp [Z68, Z0U]) (by simp) (by omega)]
    simp [Z68]
   | false =>
    simp only [cond_false, Bool.false_eq_true, if_false]
    cases hs : l.Z1Z with
    | true =>
     simp only [cond_true, if_true]
     rw [wu64 (n := 128 + _) (by omega) (by omega), Z1B (n := l.Index * 8192) (by omega) (by omega), Z1B (n := l.Last * 8192) (by omega) (by omega), Z1B (n := l.Zero + l.Index * 8192) (by omega) (by omega), Z1B (n := l.Last * 8192 * 32) (by omega) (by omega), Z1B (n := l.Zero + l.Index * 8192 + l.Last * 8192 * 32) (by omega) (by omega), wu64 (n := l.Zero + l.Index * 8192 + l.Last * 8192 * 32) (by omega) (by omega)]
     rw [ZdR _ _ (fokc (fok (s := 1) 1 rfl (by decide) (by decide) (by omega) (by show _ < (256 : Int); omega)) (ZDo (fok (s := 3) 3 rfl (by decide) (by decide) (by omega) (by show _ < (16777216 : Int); omega)))) (by simp [Z68, Z0U]) (by simp) (by omega)]
     rw [show l.Last * 8192 * 32 = l.Last * 262144 by omega]
     simp [Z68, List.append_assoc]
    | false =>
     simp only [cond_false, Bool.false_eq_true, if_false]
     rw [ZdR _ _ (ZDo (fok (s := 1) 1 rfl (by decide) (by decide) f2.1 (by show _ < (256 : Int); omega))) (by simp [Z68, Z0U]) (by simp) (by omega)]
     simp [Z68]
 ·rw [if_neg hc, decide_eq_false hc]
  rfl)
end Go.Proofs.YtefmbgacbhifdaaGreat
namespace Go.Proofs.YtefmbgacbhifdaaGreat
open Go Go.Proofs.YtefmbgacbhifdaaGreat.Le
set_option maxRecDepth 100000
structure Zix (l : List (List Int)) : Prop where
 len : l.length <= 1000
 each : ∀ p ∈ l, p.length <= 10000
structure TOK (t : Zf) : Prop where
 lo : t.Out.length <= 1000
 li : t.In.length <= 1000
 po : ∀ m ∈ t.Out, Zix m.Parts
 pi : ∀ m ∈ t.In, Zix m.Parts
theorem Zy5 (n k : Nat) (h : n <= 1000000) (hk : k <= 1000) : decide (0 <= (n : Int) /\ (n : Int) <= (n : Int) /\ n * k <= lim /\ (n : Int) <= (↑maxLen : Int)) = true := by
 have h1 : n * k <= 1000000000 := Nat.le_trans (Nat.mul_le_mul h hk) (by decide)
 have h2 : n <= maxLen := Nat.le_trans (Nat.le_trans h (by decide)) Zao
 exact decide_eq_true ⟨by omega, by omega, Nat.le_trans h1 Zrc, by exact_mod_cast h2⟩
theorem cp {α : Type} (l : List α) (z : α) : l.take l.length ++ (List.replicate l.length z).drop l.length = l := by
 rw [List.take_length, List.drop_of_length_le (by simp)]
 simp
theorem ZrN (x : Zl) : (⟨x.Dst, x.Src, x.App, x.Zero, x.IV, x.Parts, x.Zyl, x.Due, x.Z0S, x.TTL⟩ : Zl) = x := rfl
theorem Zxh (x : Zo) : (⟨x.Src, x.Dst, x.App, x.Zero, x.IV, x.Last, x.Parts, x.Block, x.Due, x.TTL, x.Done⟩ : Zo) = x := rfl
theorem ZfP (x : List Int) (h : x.length <= 100000) : ZN [x] = some x := by
 rw [ZiU [x] (by simpa using h) (by simp)]
 simp
theorem ZaN (l : List (List Int)) (h : Zix l) : Z4h l = some l := (Zc _ _).trans (by
 have h0 := h.len
 simp only [Z1N, Zy5 l.length 24 (by omega) (by decide), Tr.den, Zu, Int.toNat_natCast, cp, List.length_replicate, beq_self_eq_true, cond_true]
 have key := Zam (fun (s : List (List Int)) i => ZT Z1N (.b1 s l l.length i)) l (fun s _ => s) some (fun i s => s = l) (fun i s hi hs => by
   subst hs
   refine ⟨(Zc _ _).trans ?_, rfl⟩
   have h1 := h.each s[i] (List.getElem_mem hi)
   simp (disch := omega) only [Z1N, hi, ZfP s[i] (by omega), List.set_getElem_self, Nat.zero_le, Tr.den, Zu, SL, SM])
  (fun s _ => (Zc _ _).trans (by simp only [Z1N, Int.lt_irrefl, Tr.den, Zu, SL, SM])) l rfl
 rw [key.1, key.2])
theorem Zak (t : Zf) (h : TOK t) : Z48 t = some ⟨t⟩ := (Zc _ _).trans (by
 have h1 := h.lo
 have h2 := h.li
 simp only [Z0d, Zy5 t.Out.length 72 (by omega) (by decide), Zy5 t.In.length 80 (by omega) (by decide), Tr.den, Zu, Int.toNat_natCast, cp, List.length_replicate, List.length_nil, beq_self_eq_true, Bool.and_self, cond_true]
 have key2 : ∀ z, ZT Z0d (.b2 t.In.length 0 z t) = some ⟨t⟩ := fun z => by
  have key := Zam (fun (s : Zf) i => ZT Z0d (.b2 t.In.length i z s)) t.In (fun s _ => s) (fun s => some ⟨s⟩) (fun i s => s = t) (fun i s hi hs => by
    subst hs
    refine ⟨(Zc _ _).trans ?_, rfl⟩
    have h3 := ZaN _ (h.pi s.In[i] (List.getElem_mem hi))
    simp (disch := omega) only [Z0d, hi, h3, ZrN, Zxh, List.set_getElem_self, Nat.zero_le, Bool.and_self, Tr.den, Zu, SL, SM])
   (fun s _ => (Zc _ _).trans (by simp only [Z0d, Int.lt_irrefl, Bool.and_self, Tr.den, Zu, SL, SM])) t rfl
  rw [key.1, key.2]
 have key := Zam (fun (s : Zf) i => ZT Z0d (.b1 t.Out.length i ⟨[], []⟩ s)) t.Out (fun s _ => s) (fun s => ZT Z0d (.b2 s.In.length 0 ⟨[], []⟩ s)) (fun i s => s = t) (fun i s hi hs => by
   subst hs
   refine ⟨(Zc _ _).trans ?_, rfl⟩
   have h3 := ZaN _ (h.po s.Out[i] (List.getElem_mem hi))
   simp (disch := omega) only [Z0d, hi, h3, ZrN, Zxh, List.set_getElem_self, Nat.zero_le, Bool.and_self, Tr.den, Zu, SL, SM])
  (fun s _ => (Zc _ _).trans (by simp only [Z0d, Int.lt_irrefl, Bool.and_self, Tr.den, Zu, SL, SM])) t rfl
 refine Eq.trans ?_ (key.1.trans ?_)
 ·rfl
 ·rw [key.2]
  exact key2 _)
def ZaD (n : Int) : Int := if n < 1 then 0 else if n > 384 then 0 else if n <= 15 then 1 else (n + 11) / 12
theorem Ziv (n : Int) (h : 0 <= n) : Z6a n = some (ZaD n) := (Zc _ _).trans (by
 have h1 : n <= 384 -> ZT Z2J (.b1 n) = some (if n <= 15 then 1 else (n + 11) / 12) := fun h' => (Zc _ _).trans (by
  simp only [Z2J, Tr.den, Zu]
  rw [Z1B (n := n + 12) (by omega) (by omega), Z1B (n := n + 12 - 1) (by omega) (by omega), Int.tdiv_eq_ediv_of_nonneg (by omega), Z1B (by omega) (by omega), show n + 12 - 1 = n + 11 by omega, Bool.cond_decide, Z6L])
 simp only [Z2J, Tr.den, Zu, Bool.cond_decide, ZaD]
 split
 ·rfl
 ·split
  ·rfl
  ·exact h1 (by omega))
def toB (l : List Zl) (dst : Int) : Bool := l.any fun m => m.Dst == dst
theorem Zzi {R α : Type} (F : Int -> Option R) (xs : List α) (p : α -> Bool) (yes : R) (no : Option R)
  (hy : ∀ (i : Nat) (h : i < xs.length), p xs[i] = true -> F i = some yes) (hn : ∀ (i : Nat) (h : i < xs.length), p xs[i] = false -> F i = F ((i + 1 : Nat) : Int)) (hf : F (xs.length : Int) = no) : F 0 = if xs.any p = true then some yes else no := by
 have key : ∀ (zs ys : List α), xs = ys ++ zs -> F (ys.length : Int) = if zs.any p = true then some yes else no := by
  intro zs
  induction zs with
  | nil => intro ys hx; rw [List.append_nil] at hx; subst hx; simpa using hf
  | cons z zs ih =>
   intro ys hx
   have hl : ys.length < xs.length := by rw [hx]; simp
   have hz : xs[ys.length] = z := by simp [hx]
   cases hp : p z with
   | true => rw [hy ys.length hl (by rw [hz]; exact hp)]; simp [hp]
   | false =>
    rw [hn ys.length hl (by rw [hz]; exact hp)]
    have := ih (ys ++ [z]) (by simp [hx])
    rw [List.length_append] at this
    refine this.trans ?_
    simp [hp]
 exact key xs [] rfl
def Zvo (t : Zf) (a : Zt) : Int := if toB t.Out a.Dst = true then 20 else if (t.Out.length : Int) >= 8 then 8 else 0
def ZlF (t : Zf) (a : Zt) : Int := if (a.Bytes.length : Int) > 384 then 4 else if a.Seq.Seq + ZaD a.Bytes.length - 1 > 16777215 then 5 else if (a.Bytes.length : Int) <= 15 then 0 else Zvo t a
def Zbv (t : Zf) (a : Zt) : Int := bif !Z47 a.Src || (!Z47 a.Dst && !Zad a.Dst) || decide (a.Bytes = []) then 1 else ZlF t a
structure ZyS (a : Zt) : Prop where
 len : a.Bytes.length <= 10000
 seq : ZyX a.Seq
theorem Ztt (n : Nat) : 0 <= ZaD n /\ ZaD n <= 32 := by unfold ZaD; repeat' split; all_goals omega
theorem ZvB {n : Nat} (h : 0 < n) (h' : n <= 384) : 1 <= ZaD n := by unfold ZaD; repeat' split; all_goals omega
theorem Zha (t : Zf) (ht : TOK t) (a : Zt) (ha : ZyS a) : Z5S t a = some (Zbv t a) := by
 have hl := ht.lo
 have hseq := ha.seq.seq
 have s1 := hseq.1; have s2 := hseq.2
 have h2 : ZT Z0f (.b2 t.Out t.Out.length 0 t a) = some (Zvo t a) := by
  rw [Zzi (fun i => ZT Z0f (.b2 t.Out t.Out.length i t a)) t.Out (fun m => m.Dst == a.Dst) 20 (some (if (t.Out.length : Int) >= 8 then 8 else 0))
   (fun i hi hp => (Zc _ _).trans (by simp (disch := omega) only [Z0f, hi, hp, Tr.den, Zu, SL, SM]))
   (fun i hi hp => (Zc _ _).trans (by simp (disch := omega) only [Z0f, hi, hp, Tr.den, Zu, SL, SM]))
   ((Zc _ _).trans (by simp only [Z0f, Int.lt_irrefl, Bool.cond_decide, Z6L, Tr.den, Zu, SL, SM]))]
  rw [Z6L]
  rfl
 have h1 : 0 < a.Bytes.length -> ZT Z0f (.b1 a.Bytes.length t a) = some (ZlF t a) := fun hpos => (Zc _ _).trans (by
  have hc := Ztt a.Bytes.length
  simp only [Z0f, Tr.den, Zu, Ziv _ (Int.natCast_nonneg a.Bytes.length), Option.bind_some, h2, ZlF]
  by_cases h384 : (a.Bytes.length : Int) > 384
  ·rw [decide_eq_true h384, if_pos h384]; rfl
  ·have hc1 := ZvB hpos (show a.Bytes.length <= 384 by omega)
   rw [decide_eq_false h384, if_neg h384, wu64 (n := a.Seq.Seq) (by omega) (by omega), wu64 (n := ZaD _) (by omega) (by omega), wu64 (n := a.Seq.Seq + ZaD _) (by omega) (by omega), wu64 (n := a.Seq.Seq + ZaD _ - 1) (by omega) (by omega)]
   simp only [cond_false, Bool.cond_decide, Z6L])
 refine (Zc _ _).trans ?_
 simp only [Z0f, Tr.den, Zu, Z7U, Za4, Option.bind_some, len0, Zbv]
 by_cases hb : a.Bytes = []
 ·cases Z47 a.Src <;> cases Z47 a.Dst <;> cases Zad a.Dst <;> simp [hb]
 ·have := h1 (List.length_pos_iff.2 hb)
  rw [this]
  cases Z47 a.Src <;> cases Z47 a.Dst <;> cases Zad a.Dst <;> simp [hb]
def ZiO (k : Nat) (b : List Int) : List (List Int) := (List.range k).map fun i => (b.drop (12 * i)).take 12
theorem ZsJ (k : Nat) (b : List Int) : ZiO (k + 1) b = ZiO k b ++ [(b.drop (12 * k)).take 12] := by simp [ZiO, List.range_succ]
theorem ZiE (k : Nat) (b : List Int) : (ZiO k b).length = k := by simp [ZiO]
theorem ZvT (k : Nat) (b : List Int) (hk : k <= 1000) : Zix (ZiO k b) := ⟨by rw [ZiE]; exact hk, fun p hp => by
 obtain ⟨i, _, rfl⟩ := List.mem_map.1 hp
 rw [List.length_take]
 omega⟩
def ZDi (m : Zl) (i : Nat) : Zj := ⟨false, true, m.App, m.Zero % 8192, i, (m.Parts.length : Int) - 1, 0, 0, false, (m.Parts[i]?).getD []⟩
def Zxj (m : Zl) (k : Nat) : List Zj := (List.range k).map (ZDi m)
theorem Zxb (m : Zl) (k : Nat) : Zxj m (k + 1) = Zxj m k ++ [ZDi m k] := by simp [Zxj, List.range_succ]
theorem ZtB (m : Zl) (k : Nat) : (Zxj m k).length = k := by simp [Zxj]
structure ZDe (m : Zl) : Prop where
 parts : Zix m.Parts
 zero : U32 m.Zero
theorem ZfV (m : Zl) (hm : ZDe m) (i : Nat) (h : i < m.Parts.length) : Z4P m i = some (ZDi m i) := (Zc _ _).trans (by
 have h1 := hm.parts.each m.Parts[i] (List.getElem_mem h)
 have h2 := hm.parts.len
 have z1 := hm.zero.1; have z2 := hm.zero.2
 have e1 : w64 (m.Zero.tmod 8192) = m.Zero % 8192 := by rw [Int.tmod_eq_emod_of_nonneg z1, Z1B (by omega) (by omega)]
 have e2 : w64 ((m.Parts.length : Int) - 1) = (m.Parts.length : Int) - 1 := Z1B (by omega) (by omega)
 simp only [Z4S, h, ZfP m.Parts[i] (by omega), e1, e2, ZDi, Option.getD_some, Tr.den, Zu, SL, SM])
def ZiW (a : Zt) (now : Int) : Zl := ⟨a.Dst, a.Src, a.App, a.Seq.Seq, a.Seq.IV, ZiO ((a.Bytes.length + 11) / 12) a.Bytes, 0, w64 (now + 20), 1, a.TTL⟩
def ZgI (t : Zf) (a : Zt) (now : Int) : Zf × List Zj × Int :=
 if Zbv t a = 0 then
  (if (a.Bytes.length : Int) <= 15 then (t, [⟨false, false, a.App, 0, 0, 0, 0, 0, false, a.Bytes⟩], 0)
   else (⟨t.Out ++ [ZiW a now], t.In⟩, Zxj (ZiW a now) ((a.Bytes.length + 11) / 12), 0))
 else (t, [], Zbv t a)
theorem ZCE (a : Zt) (ha : ZyS a) (now : Int) : ZDe (ZiW a now) := ⟨ZvT _ _ (by have := ha.len; omega), ha.seq.seq⟩
theorem ZjM (t : Zf) (ht : TOK t) (a : Zt) (ha : ZyS a) (now : Int) : Z7y t a now = some (ZgI t a now) := by
 have hlen := ha.len
 have hto := ht.lo
 have hmsg := ZCE a ha now
 have h2 : ∀ z, ZT Z0k (.b2 [] ((ZiW a now).Parts.length : Int) 0 t z (ZiW a now)) = some (⟨t.Out ++ [ZiW a now], t.In⟩, Zxj (ZiW a now) (ZiW a now).Parts.length, 0) := fun z => by
  have key : ∀ d i : Nat, i + d = (ZiW a now).Parts.length -> ZT Z0k (.b2 (Zxj (ZiW a now) i) ((ZiW a now).Parts.length : Int) i t z (ZiW a now)) = some (⟨t.Out ++ [ZiW a now], t.In⟩, Zxj (ZiW a now) (ZiW a now).Parts.length, 0) := by
   have hp := hmsg.parts.len
   intro d
   induction d with
   | zero =>
    intro i hi
    obtain rfl : i = (ZiW a now).Parts.length := by omega
    refine (Zc _ _).trans ?_
    simp (disch := omega) only [Z0k, Int.lt_irrefl, Bool.and_self, Tr.den, Zu, SL, SM]
   | succ d ih =>
    intro i hi
    have hlt : i < (ZiW a now).Parts.length := by omega
    rw [<- ih (i + 1) (by omega), Zxb]
    have hs := ZtB (ZiW a now) i
    refine (Zc _ _).trans ?_
    simp (disch := omega) only [Z0k, hlt, ZfV _ hmsg i hlt, hs, Bool.and_self, Tr.den, Zu, SL, SM]
  exact key _ 0 (Nat.zero_add _)
 have h1 : ∀ z, ZT Z0k (.b1 a.Bytes t z ⟨a.Dst, a.Src, a.App, a.Seq.Seq, a.Seq.IV, [], 0, w64 (now + 20), 1, a.TTL⟩) = some (⟨t.Out ++ [ZiW a now], t.In⟩, Zxj (ZiW a now) (ZiW a now).Parts.length, 0) := fun z => by
  have key : ∀ d i : Nat, i + d = (a.Bytes.length + 11) / 12 -> ZT Z0k (.b1 (a.Bytes.drop (12 * i)) t z ⟨a.Dst, a.Src, a.App, a.Seq.Seq, a.Seq.IV, ZiO i a.Bytes, 0, w64 (now + 20), 1, a.TTL⟩) = some (⟨t.Out ++ [ZiW a now], t.In⟩, Zxj (ZiW a now) (ZiW a now).Parts.length, 0) := by
   intro d
   induction d with
   | zero =>
    intro i hi
    obtain rfl : i = (a.Bytes.length + 11) / 12 := by omega
    refine Eq.trans ((Zc _ _).trans ?_) (h2 z)
    rw [List.drop_of_length_le (by omega)]
    simp only [Z0k, Int.lt_irrefl, Bool.and_self, ZiW, gt_iff_lt, Int.ofNat_zero, Tr.den, Zu, SL, SM]
   | succ d ih =>
    intro i hi
    rw [<- ih (i + 1) (by omega), ZsJ]
    have hd : (a.Bytes.drop (12 * i)).length = a.Bytes.length - 12 * i := List.length_drop
    have hpos : decide (((a.Bytes.length - 12 * i : Nat) : Int) > 0) = true := decide_eq_true (by omega)
    have e1 : (if ((a.Bytes.length - 12 * i : Nat) : Int) < 12 then ((a.Bytes.length - 12 * i : Nat) : Int) else 12) = ((min (a.Bytes.length - 12 * i) 12 : Nat) : Int) := by split <;> omega
    have e2 : decide (0 <= ((min (a.Bytes.length - 12 * i) 12 : Nat) : Int) /\ ((min (a.Bytes.length - 12 * i) 12 : Nat) : Int) <= ((a.Bytes.length - 12 * i : Nat) : Int)) = true := decide_eq_true (by omega)
    have e5 : decide (((min (a.Bytes.length - 12 * i) 12 : Nat) : Int) <= ((a.Bytes.length - 12 * i : Nat) : Int)) = true := decide_eq_true (by omega)
    have e3 : (a.Bytes.drop (12 * i)).take (min (a.Bytes.length - 12 * i) 12) = (a.Bytes.drop (12 * i)).take 12 := by
     rw [Nat.min_comm, <- hd, <- List.take_eq_take_min]
    have e4 : ((a.Bytes.drop (12 * i)).drop (min (a.Bytes.length - 12 * i) 12)).take (a.Bytes.length - 12 * i - min (a.Bytes.length - 12 * i) 12) = a.Bytes.drop (12 * (i + 1)) := by
     rw [List.take_of_length_le (by rw [List.length_drop, hd]; omega), List.drop_drop]
     by_cases hc : 12 <= a.Bytes.length - 12 * i
     ·rw [Nat.min_eq_right hc, Nat.mul_succ]
     ·rw [List.drop_of_length_le (by omega), List.drop_of_length_le (by omega)]
    have hj := ZfP ((a.Bytes.drop (12 * i)).take 12) (by rw [List.length_take]; omega)
    have hcl := ZiE i a.Bytes
    refine (Zc _ _).trans ?_
    simp only [Z0k, hd, hpos, e1, Tr.den, Zu, cond_true]
    simp (disch := omega) only [e2, e5, e3, e4, List.drop_zero, Nat.sub_zero, hj, hcl, Bool.and_self, Tr.den, Zu, SL, SM]
  exact key _ 0 (Nat.zero_add _)
 refine (Zc _ _).trans ?_
 simp only [Z0k, Tr.den, Zu, Zha t ht a ha, Zak t ht, Zy2, Option.bind_some, ZgI]
 by_cases hr : Zbv t a = 0
 ·by_cases h15 : (a.Bytes.length : Int) <= 15
  ·simp only [hr, decide_true, Bool.not_true, cond_false, decide_eq_true h15, cond_true, if_true, if_pos h15, ZfP a.Bytes (by omega), beq_self_eq_true, Bool.and_self, List.length_cons, List.length_nil, Option.bind_some]
  ·simp only [hr, decide_true, Bool.not_true, cond_false, decide_eq_false h15, cond_true, if_true, if_neg h15, beq_self_eq_true, Bool.and_self, List.length_nil, h1]
   rw [show (ZiW a now).Parts.length = (a.Bytes.length + 11) / 12 from ZiE _ _]
 ·rw [if_neg hr, decide_eq_false hr]
  simp only [Bool.not_false, cond_true, beq_self_eq_true, Bool.and_self, List.length_nil]
end Go.Proofs.YtefmbgacbhifdaaGreat
namespace Go.Proofs.YtefmbgacbhifdaaGreat
open Go Go.Proofs.YtefmbgacbhifdaaGreat.Le
set_option maxRecDepth 100000
def txv (v : Z0D) : Int := if v.Zk2 = true /\ v.Index ≠ 0 then v.Index - 1 else v.Index
theorem ZzM {v : Z0D} (h : U32 v.Index) : U32 (txv v) := by
 have h1 := h.1; have h2 := h.2
 unfold txv U32
 split <;> omega
theorem ZiT (v : Z0D) (h : U32 v.Index) : Z9d v = some (txv v) := (Zc _ _).trans (by
 have h1 := h.1; have h2 := h.2
 have e1 : ZT Z55 (.b2 v) = some v.Index := (Zc _ _).trans rfl
 have e2 : v.Index ≠ 0 -> ZT Z55 (.b1 v) = some (v.Index - 1) := fun hne => (Zc _ _).trans (by
  simp only [Z55, Tr.den, Zu]
  rw [ZtG (by omega) (by omega)])
 simp only [Z55, Tr.den, Zu, Zy2, e1, txv]
 cases hu : v.Zk2 with
 | false => simp
 | true =>
  by_cases hi : v.Index = 0
  ·simp [hi]
  ·simp [hi, e2 hi])
def ZiG (k : Z0R) : Zn := if k.Z0j = 2 then k.New else k.Old
theorem Zis (k : Z0R) : Z6t k = some (ZiG k) := (Zc _ _).trans (by
 have h : Z0A k = some (if k.Z0j = 1 then [k.Old, k.New] else if k.Z0j = 2 then [k.New, k.Old] else [k.Old]) := (Zc _ _).trans (by
  simp only [Z4W, Tr.den, Zu, List.length_cons, List.length_nil]
  by_cases h1 : k.Z0j = 1
  ·simp [h1]
  ·by_cases h2 : k.Z0j = 2
   ·simp [h2]
   ·simp [h1, h2, beq_eq_false_iff_ne.2 h1, beq_eq_false_iff_ne.2 h2])
 simp only [Z6h, h, Tr.den, Zu, Option.bind_some, ZiG]
 by_cases h1 : k.Z0j = 1
 ·simp [h1]
 ·by_cases h2 : k.Z0j = 2
  ·simp [h2]
  ·simp [h1, h2])
structure Znv (n : Zg) : Prop where
 adr : U16 n.Address
 iv : U32 n.IV.Index
 seq : U32 n.Seq
 key : KeyRg (ZiG n.Keys)
 low : n.Z4.Low = 0
def Z4x (n : Zg) : Zg := { n with ZP := if n.Seq = n.ZP then IntKind.wrap .u32 (n.ZP + 100) else n.ZP, Seq := IntKind.wrap .u32 (n.Seq + 1) }
def ZB2 (n : Zg) : Int := IntKind.wrap .u32 (IntKind.wrap .u32 (n.Seq + 1) - 1)
theorem Zmx (n : Zg) (now : Int) (ev : List Za) : Z3z ⟨n, now⟩ ev = some ⟨ZB2 n, ⟨Z4x n, now⟩, ev⟩ := (Zc _ _).trans (by
 have h : ∀ x : Zg, ZT Z1x (.b1 ⟨x, now⟩ ev) = some ⟨IntKind.wrap .u32 (IntKind.wrap .u32 (x.Seq + 1) - 1), ⟨{ x with Seq := IntKind.wrap .u32 (x.Seq + 1) }, now⟩, ev⟩ := fun x => (Zc _ _).trans (by
  simp only [Z1x, Bool.and_self, Tr.den, Zu, SL, SM])
 simp only [Z1x, h, Bool.and_self, Tr.den, Zu, SL, SM]
 by_cases hs : n.Seq = n.ZP
 ·simp [hs, Z4x, ZB2]
 ·simp [hs, Z4x, ZB2, beq_eq_false_iff_ne.2 hs])
noncomputable def Zu7 (n : Zg) (k : Zn) (src dst ttl : Int) (l : Zj) : Zm := ⟨txv n.IV, k.NID, l.Control, ttl, ZB2 n, src, dst, (Zjr l).1⟩
def outv (n : Zg) (due : Int) (b : List Int) : Zg := { n with Out := n.Out ++ [⟨due, b, 0⟩] }
noncomputable def Zjw (n : Zg) (k : Zn) (src dst ttl : Int) (l : Zj) (now : Int) : Zg :=
 if (Zjr l).2 = 0 then (if (ZgK k (Zu7 n k src dst ttl l)).2 = 0 then outv (Z4x n) now (ZgK k (Zu7 n k src dst ttl l)).1 else Z4x n) else Z4x n
theorem ZtN {p : Zm} (h : p.Seq > 16777215) : checkN p = 5 := by
 unfold checkN
 repeat' split
 all_goals first | rfl | omega
theorem Zo9 (k : Zn) (p : Zm) (hp : ZqL p) (due : Int) (n : Zg) (hl : n.Out.length <= 100000) (now : Int) (ev : List Za) :
  Z4t k p due ⟨n, now⟩ ev = some (if (ZgK k p).2 = 0 then ⟨true, ⟨outv n due (ZgK k p).1, now⟩, ev⟩ else ⟨false, ⟨n, now⟩, ev⟩) := (Zc _ _).trans (by
 simp (disch := omega) only [Z4y, Zlp k p hp, Zy2, Bool.and_self, Tr.den, Zu, SL, SM]
 by_cases h : (ZgK k p).2 = 0
 ·simp [h, outv]
 ·simp [h])
theorem Zep (f : ZC) (h : f.Low = 0) (dst : Int) : Z6P f dst = some false := (Zc _ _).trans (by
 simp only [Z9Q, h, Tr.den, Zu]
 rfl)
theorem Zmd (p : Zm) (l : Zj) (n : Zg) (h : n.Z4.Low = 0) (now : Int) (ev : List Za) : Z3H p l ⟨n, now⟩ ev = some ⟨⟨n, now⟩, ev⟩ := (Zc _ _).trans (by
 simp only [Z3F, Zep _ h, Bool.and_self, Tr.den, Zu, SL, SM])
theorem ZCa {n : Zg} (h : Znv n) (k : Zn) {src dst : Int} (hs : U16 src) (hd : U16 dst) (ttl : Int) (l : Zj) : ZqL (Zu7 n k src dst ttl l) := ⟨ZzM h.iv, r32 _, hs, hd⟩
theorem Zmb (k : Zn) (src dst ttl : Int) (hs : U16 src) (hd : U16 dst) (l : Zj) (hb : U32 l.Block) (n : Zg) (hn : Znv n) (hl : n.Out.length <= 100000) (now : Int) (ev : List Za) :
  Z3V k ⟨src, dst, ttl, l⟩ ⟨n, now⟩ ev = some ⟨⟨Zjw n k src dst ttl l now, now⟩, ev⟩ := (Zc _ _).trans (by
 have hp := ZCa hn k hs hd ttl l
 have h1 : (Zjr l).2 = 0 -> ZT Z1v (.b1 (ZB2 n) (Zjr l).1 ⟨Z4x n, now⟩ ev k ⟨src, dst, ttl, l⟩) = some ⟨⟨Zjw n k src dst ttl l now, now⟩, ev⟩ := fun he => (Zc _ _).trans (by
  have hput := Zo9 k (Zu7 n k src dst ttl l) hp now (Z4x n) hl now ev
  have htx := ZiT (Z4x n).IV hn.iv
  simp only [Z1v, htx, Tr.den, Zu, Option.bind_some]
  rw [show (⟨txv (Z4x n).IV, k.NID, l.Control, ttl, ZB2 n, src, dst, (Zjr l).1⟩ : Zm) = Zu7 n k src dst ttl l from rfl]
  simp only [hput, Zjw, he, if_true, Option.bind_some, beq_self_eq_true, Bool.and_self, cond_true]
  by_cases hc : (ZgK k (Zu7 n k src dst ttl l)).2 = 0
  ·have hk := Zmd (Zu7 n k src dst ttl l) l (outv (Z4x n) now (ZgK k (Zu7 n k src dst ttl l)).1) hn.low now ev
   simp only [hc, if_true, cond_true, hk, Option.bind_some, beq_self_eq_true, Bool.and_self]
  ·simp only [hc, if_false, cond_false, beq_self_eq_true, Bool.and_self, cond_true])
 simp only [Z1v, Zmx, Zgx l hb, Zy2, Tr.den, Zu, Option.bind_some, beq_self_eq_true, Bool.and_self, cond_true]
 by_cases he : (Zjr l).2 = 0
 ·simp only [he, decide_true, Bool.not_true, cond_false, h1 he]
  by_cases hq : ZB2 n > 16777215
  ·have hc : checkN (Zu7 n k src dst ttl l) = 5 := ZtN hq
   simp [hq, Zjw, he, ZgK, hc]
  ·simp [hq]
 ·simp [he, Zjw])
end Go.Proofs.YtefmbgacbhifdaaGreat
namespace Go.Proofs.YtefmbgacbhifdaaGreat
open Go Go.Proofs.YtefmbgacbhifdaaGreat.Le
set_option maxRecDepth 100000
noncomputable def Zzr (dst ttl now : Int) (n : Zg) (l : Zj) : Zg := Zjw n (ZiG n.Keys) n.Address dst ttl l now
structure Kept (m n : Zg) (c : Nat) : Prop where
 adr : m.Address = n.Address
 keys : m.Keys = n.Keys
 iv : m.IV = n.IV
 fr : m.Z4 = n.Z4
 seq : U32 m.Seq
 out : m.Out.length <= n.Out.length + c
theorem Kept.ok {m n : Zg} {c : Nat} (h : Kept m n c) (hn : Znv n) : Znv m := ⟨h.adr ▸ hn.adr, h.iv ▸ hn.iv, h.seq, h.keys ▸ hn.key, h.fr ▸ hn.low⟩
theorem ZvY (n : Zg) (k : Zn) (src dst ttl : Int) (l : Zj) (now : Int) : Kept (Zjw n k src dst ttl l now) n 1 := by
 unfold Zjw
 repeat' split
 ·exact ⟨rfl, rfl, rfl, rfl, r32 _, by simp [outv, Z4x]⟩
 ·exact ⟨rfl, rfl, rfl, rfl, r32 _, by simp [Z4x]⟩
 ·exact ⟨rfl, rfl, rfl, rfl, r32 _, by simp [Z4x]⟩
theorem Kept.step {m n : Zg} {c : Nat} (h : Kept m n c) {r : Zg} (h' : Kept r m 1) : Kept r n (c + 1) :=
 ⟨h'.adr.trans h.adr, h'.keys.trans h.keys, h'.iv.trans h.iv, h'.fr.trans h.fr, h'.seq, by have := h.out; have := h'.out; omega⟩
noncomputable def Z9K (n : Zg) (dst : Int) (app : Bool) (ttl : Int) (b : List Int) (now : Int) : Zg × Int :=
 if Z47 dst = false /\ Zad dst = false then (n, 1) else if ttl < 0 then (n, 5) else if ttl > 127 then (n, 5) else if b = [] then (n, 1) else if (b.length : Int) > 380 then (n, 4) else
 let id : Zd := ⟨n.Address, txv n.IV, n.Seq⟩
 let t := ZgI n.Z5 ⟨n.Address, dst, app, ttl, id, Z36 (if app = true then n.App else n.Device) app id dst b⟩ now
 if t.2.2 = 0 then (t.2.1.foldl (Zzr dst ttl now) { n with Z5 := t.1 }, 0) else (n, t.2.2)
structure ZtJ (n : Zg) : Prop where
 ok : Znv n
 up : n.Up = true
 out : n.Out.length <= 1000
 tr : TOK n.Z5
 dev : K64 n.Device
 app : K64 n.App
theorem ZAR (t : Zf) (a : Zt) (now : Int) : (ZgI t a now).2.1.length <= (a.Bytes.length + 11) / 12 + 1 /\ ∀ l ∈ (ZgI t a now).2.1, l.Block = 0 := by
 unfold ZgI
 split
 ·split
  ·refine ⟨by simp, fun l hl => ?_⟩
   simp only [List.mem_singleton] at hl
   rw [hl]
  ·refine ⟨by simp [ZtB], fun l hl => ?_⟩
   obtain ⟨i, _, rfl⟩ := List.mem_map.1 hl
   rfl
 ·exact ⟨by simp, fun l hl => by cases hl⟩
theorem ZCx {n : Zg} (h : ZtJ n) (dst : Int) (app : Bool) (ttl : Int) (b : List Int) (hb : ¬ (b.length : Int) > 380) :
  ZyS ⟨n.Address, dst, app, ttl, ⟨n.Address, txv n.IV, n.Seq⟩, Z36 (if app = true then n.App else n.Device) app ⟨n.Address, txv n.IV, n.Seq⟩ dst b⟩ :=
 ⟨by show (Z36 _ _ _ _ _).length <= 10000; rw [Z36, Zds]; omega, ⟨h.ok.adr, h.ok.seq, ZzM h.ok.iv⟩⟩
theorem ZmD (n : Zg) (h : ZtJ n) (dst : Int) (hd : U16 dst) (app : Bool) (ttl : Int) (b : List Int) (now : Int) (ev : List Za) :
  Z4T dst app ttl b ⟨n, now⟩ ev = some ⟨(Z9K n dst app ttl b now).2, ⟨(Z9K n dst app ttl b now).1, now⟩, ev, n.Z5.Out, n.Z5.In⟩ := by
 have h2 : ¬ (Z47 dst = false /\ Zad dst = false) -> ¬ ttl < 0 -> ¬ ttl > 127 -> ZT Z09 (.b2 dst app ttl b ⟨n, now⟩ ev) = some ⟨(Z9K n dst app ttl b now).2, ⟨(Z9K n dst app ttl b now).1, now⟩, ev, n.Z5.Out, n.Z5.In⟩ := fun c1 c2 c3 => (Zc _ _).trans (by
  simp only [Z09, len0, Tr.den, Zu, Z9K, if_neg c1, if_neg c2, if_neg c3, beq_self_eq_true, Bool.and_self, cond_true]
  by_cases hb0 : b = []
  ·simp [hb0]
  ·by_cases hb : (b.length : Int) > 380
   ·simp [hb0, hb]
   ·have hacc := ZCx h dst app ttl b hb
    have hkey : ∀ w : Z0g, Z2f w app = some (if app = true then w.Node.App else w.Node.Device) := fun w => (Zc _ _).trans (by cases app <;> rfl)
    have hseal := Zin (if app = true then n.App else n.Device) app ⟨n.Address, txv n.IV, n.Seq⟩ hacc.seq dst hd b (by omega)
    have hsend := ZjM n.Z5 h.tr _ hacc now
    obtain ⟨hlow, hblk⟩ := ZAR n.Z5 ⟨n.Address, dst, app, ttl, ⟨n.Address, txv n.IV, n.Seq⟩, Z36 (if app = true then n.App else n.Device) app ⟨n.Address, txv n.IV, n.Seq⟩ dst b⟩ now
    have hblen := hacc.len
    simp only [decide_eq_false hb0, decide_eq_false hb, cond_false, if_neg hb0, if_neg hb, ZiT n.IV h.ok.iv, hkey, hseal, hsend, Option.bind_some, Zy2, beq_self_eq_true, Bool.and_self, cond_true]
    revert hlow hblk
    generalize hS : ZgI n.Z5 _ now = S
    intro hlow hblk
    have key := Zam (fun (s : Zg) i => ZT Z09 (.b3 dst ttl S.2.1 S.2.1.length i ⟨s, now⟩ ev n.Z5.Out n.Z5.In)) S.2.1 (Zzr dst ttl now) (fun s => some ⟨0, ⟨s, now⟩, ev, n.Z5.Out, n.Z5.In⟩) (fun i s => Kept s { n with Z5 := S.1 } i) (fun i s hi hs => by
      have hn' : Znv ({ n with Z5 := S.1 } : Zg) := ⟨h.ok.adr, h.ok.iv, h.ok.seq, h.ok.key, h.ok.low⟩
      have hok := hs.ok hn'
      have ho := hs.out
      have hout := h.out
      have hlen2 : s.Out.length <= 100000 := by
       have : ({ n with Z5 := S.1 } : Zg).Out.length = n.Out.length := rfl
       omega
      refine ⟨(Zc _ _).trans ?_, hs.step (ZvY _ _ _ _ _ _ _)⟩
      have hb0' : U32 (S.2.1[i]).Block := by rw [hblk _ (List.getElem_mem hi)]; exact ⟨by decide, by decide⟩
      have e1 := Zmb (ZiG s.Keys) s.Address dst ttl hok.adr hd S.2.1[i] hb0' s hok hlen2 now ev
      have e2 : ∀ w : Z0g, Z3o w = some (ZiG w.Node.Keys) := fun w => (Zc _ _).trans (by simp only [Z3m, Zis, Tr.den, Zu, SL, SM])
      simp (disch := omega) only [Z09, hi, e1, e2, Zzr, Bool.and_self, Tr.den, Zu, SL, SM])
     (fun s _ => (Zc _ _).trans (by simp only [Z09, Int.lt_irrefl, Bool.and_self, Tr.den, Zu, SL, SM])) { n with Z5 := S.1 } ⟨rfl, rfl, rfl, rfl, h.ok.seq, Nat.le_refl _⟩
    by_cases hz : S.2.2 = 0
    ·simp only [hz, decide_true, Bool.not_true, cond_false, if_true]
     exact key.1
    ·simp only [if_neg hz, decide_eq_false hz, Bool.not_false, cond_true])
 have h1 : ¬ (Z47 dst = false /\ Zad dst = false) -> ZT Z09 (.b1 dst app ttl b ⟨n, now⟩ ev) = some ⟨(Z9K n dst app ttl b now).2, ⟨(Z9K n dst app ttl b now).1, now⟩, ev, n.Z5.Out, n.Z5.In⟩ := fun c1 => (Zc _ _).trans (by
  simp only [Z09, Tr.den, Zu, beq_self_eq_true, Bool.and_self, cond_true]
  by_cases c2 : ttl < 0
  ·simp [c2, Z9K, c1]
  ·by_cases c3 : ttl > 127
   ·simp [c2, c3, Z9K, c1]
   ·rw [decide_eq_false c2, decide_eq_false c3]
    exact h2 c1 c2 c3)
 refine (Zc _ _).trans ?_
 simp only [Z09, h.up, Z7U, Za4, Tr.den, Zu, Option.bind_some, Bool.not_true, cond_false, beq_self_eq_true, Bool.and_self, cond_true]
 have q1 := Bool.eq_false_or_eq_true (Z47 dst)
 have q2 := Bool.eq_false_or_eq_true (Zad dst)
 rcases q1 with q1 | q1
 ·simp only [q1, Bool.not_true, cond_false]
  exact h1 (by simp [q1])
 ·rcases q2 with q2 | q2
  ·simp only [q1, q2, Bool.not_true, Bool.not_false, cond_false, cond_true]
   exact h1 (by simp [q2])
  ·simp [q1, q2, Z9K]
end Go.Proofs.YtefmbgacbhifdaaGreat
namespace Go.Proofs.YtefmbgacbhifdaaGreat
open Go Go.Proofs.YtefmbgacbhifdaaGreat.Le
set_option maxRecDepth 100000
theorem Zgq {R : Type} (F : Int -> Option R) (n : Nat) (r : Option R) (hs : ∀ i : Nat, i < n -> F i = F ((i + 1 : Nat) : Int)) (he : F (n : Int) = r) : F 0 = r := by
 have key : ∀ d i : Nat, i + d = n -> F i = r := by
  intro d
  induction d with
  | zero => intro i hi; rw [show i = n by omega]; exact he
  | succ d ih => intro i hi; exact (hs i (by omega)).trans (ih (i + 1) (by omega))
 exact key n 0 (Nat.zero_add n)
theorem Zwj (xs : List Int) : Le.bytesOf (xs.map (U.enc 5)) = some (xs.map fun n => UInt8.ofNat n.toNat) := by
 induction xs with
 | nil => rfl
 | cons x xs ih =>
  rw [List.map_cons]
  show (match Le.byteOf (U.enc 5 x), Le.bytesOf (xs.map (U.enc 5)) with | some b, some bs => some (b :: bs) | _, _ => none) = _
  rw [ih]
  rfl
theorem okB (xs : List Int) (h : xs.length <= 1000000) : ZdB U 5 xs = true := by
 unfold ZdB
 rw [Zwj]
 exact decide_eq_true (by rw [List.length_map]; exact Nat.le_trans (Nat.le_trans h (by decide)) Zao)
theorem Z4f {α : Type} [BEq α] [ReflBEq α] (x : α) : (x != x) = false := by simp [bne]
structure ZyV (f : ZC) : Prop where
 q : f.Zi.length <= 1000000
 s : f.Zk.length <= 1000000
 p : ∀ x ∈ f.Zi, x.PDU.Payload.length <= 1000000 /\ x.Lower.Bytes.length <= 1000000
def ZA8 (l : List ZG) : Prop := l.length <= 1000000 /\ ∀ x ∈ l, x.Bytes.length <= 1000000
structure ZlA (n : Zg) : Prop where
 groups : n.Zb.length <= 1000000
 cache : n.Cache.length <= 1000000
 ZvK : n.Z9.length <= 1000000
 tr : TOK n.Z5
 fr : ZyV n.Z4
 low : n.Low.Zk.length <= 1000000
 out : ZA8 n.Out
end Go.Proofs.YtefmbgacbhifdaaGreat
namespace Go.Proofs.YtefmbgacbhifdaaGreat
open Go Go.Proofs.YtefmbgacbhifdaaGreat.Le
set_option maxRecDepth 100000
theorem Z2n (n k : Nat) (h : n <= 1000000) (hk : k <= 1000) : n * k <= lim /\ n <= maxLen :=
 ⟨Nat.le_trans (Nat.le_trans (Nat.mul_le_mul h hk) (by decide)) Zrc, Nat.le_trans (Nat.le_trans h (by decide)) Zao⟩
theorem Zth (l : List Int) (h : l.length <= 1000000) : Z10 l = some ⟨l⟩ := if_pos (Z2n _ _ h (by decide))
theorem Zo0 (l : List Int) (h : l.length <= 1000000) : Z11 l = some ⟨l⟩ := if_pos (Z2n _ _ h (by decide))
theorem ZsD (l : List Zd) (h : l.length <= 1000000) : Z1f l = some ⟨l⟩ := if_pos (Z2n _ _ h (by decide))
theorem ZtD (l : List Zd) (h : l.length <= 1000000) : Z0B l = some ⟨l⟩ := if_pos (Z2n _ _ h (by decide))
theorem ZtP (l : List Zl) (h : l.length <= 1000000) : Z1E l = some ⟨l⟩ := if_pos (Z2n _ _ h (by decide))
theorem Zu1 (l : List Zo) (h : l.length <= 1000000) : Z1H l = some ⟨l⟩ := if_pos (Z2n _ _ h (by decide))
theorem ZyB (l : List ZJ) (h : l.length <= 1000000) : Z2m l = some ⟨l⟩ := if_pos (Z2n _ _ h (by decide))
theorem ZB5 (l : List ZG) (h : l.length <= 1000000) : Z2B l = some ⟨l⟩ := if_pos (Z2n _ _ h (by decide))
theorem Zr1 (t : Zf) : (⟨t.Out, t.In⟩ : Zf) = t := rfl
theorem ZxM (f : ZC) : (⟨f.Low, f.Zi, f.Zk, f.Bit, f.Sent, f.Z04, f.Counter, f.Dropped⟩ : ZC) = f := rfl
theorem ZBm (l : ZA) : (⟨l.Z0j, l.Z4, l.Bit, l.Counter, l.Due, l.Z0S, l.Zk, l.Told, l.More, l.Last⟩ : ZA) = l := rfl
theorem Zw6 (x : ZG) : (⟨x.Due, x.Bytes, x.To⟩ : ZG) = x := rfl
theorem ZAc (p : Zm) : (⟨p.IV, p.NID, p.Control, p.TTL, p.Seq, p.Src, p.Dst, p.Payload⟩ : Zm) = p := rfl
theorem ZxG (l : Zj) : (⟨l.Control, l.Z1Z, l.App, l.Zero, l.Index, l.Last, l.Z4F, l.Block, l.Z4, l.Bytes⟩ : Zj) = l := rfl
theorem Zu2 (q : ZJ) : (⟨q.PDU, q.Lower⟩ : ZJ) = q := rfl
theorem Z7Z (n : Zg) : (⟨n.Address, n.Device, n.App, n.Keys, n.IV, n.Seq, n.Z06, n.Zw, n.Zb, n.Cache, n.Z9, n.Z5, n.Z4, n.Low, n.Out, n.ZP, n.Up⟩ : Zg) = n := rfl
theorem Zj5 (l : List (List Int)) (h : Zix l) : Z9v l = some l := (Zc _ _).trans (by
 have h0 := h.len
 simp only [Z5a, Zy5 l.length 24 (by omega) (by decide), Tr.den, Zu, Int.toNat_natCast, cond_true]
 have key : ∀ d i : Nat, i + d = l.length -> ZT Z5a (.b1 (l.take i ++ List.replicate d []) l l.length i) = some l := by
  intro d
  induction d with
  | zero =>
   intro i hi
   obtain rfl : i = l.length := by omega
   refine (Zc _ _).trans ?_
   simp only [Z5a, Int.lt_irrefl, List.take_length, List.replicate_zero, List.append_nil, Tr.den, Zu, SL, SM]
  | succ d ih =>
   intro i hi
   have hlt : i < l.length := by omega
   have h1 := h.each l[i] (List.getElem_mem hlt)
   have hlen : (l.take i ++ List.replicate (d + 1) ([] : List Int)).length = l.length := by simp; omega
   have hset : (l.take i ++ List.replicate (d + 1) ([] : List Int)).set i l[i] = l.take (i + 1) ++ List.replicate d [] := by
    rw [List.set_append_right _ _ (by rw [List.length_take]; exact Nat.min_le_left _ _), List.length_take, Nat.min_eq_left (by omega), Nat.sub_self, List.replicate_succ, List.set_cons_zero, List.take_add_one, List.getElem?_eq_getElem hlt, List.append_assoc]
    rfl
   have hget : (l.take i ++ List.replicate (d + 1) ([] : List Int))[i]? = some [] := by
    rw [List.getElem?_append_right (by rw [List.length_take]; exact Nat.min_le_left _ _), List.length_take, Nat.min_eq_left (by omega), Nat.sub_self]
    rfl
   rw [<- ih (i + 1) (by omega)]
   refine (Zc _ _).trans ?_
   simp (disch := omega) only [Z5a, hlt, Zth l[i] (by omega), hset, hget, hlen, List.length_set, Tr.den, Zu, Int.natCast_nonneg, Int.ofNat_lt, Int.toNat_natCast, List.getElem?_eq_getElem hlt, Option.bind_some, beq_self_eq_true, decide_true, cond_true, true_and, Bool.and_true, Bool.and_self, Nat.zero_le, Zp3]
 simpa using key l.length 0 (Nat.zero_add _))
theorem Zpa (q : ZJ) (h : q.PDU.Payload.length <= 1000000 /\ q.Lower.Bytes.length <= 1000000) : Z5W q = some q := (Zc _ _).trans (by
 simp only [Zbc, Zth _ h.1, Zth _ h.2, ZAc, ZxG, Zu2, Tr.den, Zu, SL, SM])
theorem ZdL (n : Zg) (h : ZlA n) : Z86 n = some ⟨n⟩ := by
 have g1 := h.groups; have g2 := h.cache; have g3 := h.ZvK; have g4 := h.low; have g5 := h.fr.s; have g6 := h.fr.q; have g7 := h.out.1; have g8 := h.tr.lo; have g9 := h.tr.li
 have k4 : ∀ z, ZT Z0K (.b4 n.Out n.Out.length 0 n z) = some ⟨n⟩ := fun z =>
  Zgq (fun i => ZT Z0K (.b4 n.Out n.Out.length i n z)) n.Out.length _
   (fun i hi => (Zc _ _).trans (by
    have hp := h.out.2 n.Out[i] (List.getElem_mem hi)
    simp (disch := omega) only [Z0K, hi, Zth _ hp, Zw6, Z7Z, List.set_getElem_self, Nat.zero_le, Bool.and_self, Tr.den, Zu, SL, SM]))
   ((Zc _ _).trans (by simp only [Z0K, Int.lt_irrefl, Z7Z, Bool.and_self, Tr.den, Zu, SL, SM]))
 have k3 : ∀ z, ZT Z0K (.b3 n.Z4.Zi n.Z4.Zi.length 0 n z) = some ⟨n⟩ := fun z =>
  Zgq (fun i => ZT Z0K (.b3 n.Z4.Zi n.Z4.Zi.length i n z)) n.Z4.Zi.length _
   (fun i hi => (Zc _ _).trans (by
    have hp := h.fr.p n.Z4.Zi[i] (List.getElem_mem hi)
    simp (disch := omega) only [Z0K, hi, Zpa _ hp, ZxM, Z7Z, List.set_getElem_self, Nat.zero_le, Bool.and_self, Tr.den, Zu, SL, SM]))
   ((Zc _ _).trans (by simp only [Z0K, Int.lt_irrefl, Zo0 _ g4, ZB5 _ g7, ZBm, ZxM, Z7Z, k4, Bool.and_self, Tr.den, Zu, SL, SM]))
 have k2 : ∀ z, ZT Z0K (.b2 n.Z5.In n.Z5.In.length 0 n z) = some ⟨n⟩ := fun z =>
  Zgq (fun i => ZT Z0K (.b2 n.Z5.In n.Z5.In.length i n z)) n.Z5.In.length _
   (fun i hi => (Zc _ _).trans (by
    have hp := Zj5 _ (h.tr.pi n.Z5.In[i] (List.getElem_mem hi))
    simp (disch := omega) only [Z0K, hi, hp, Zxh, Zr1, Z7Z, List.set_getElem_self, Nat.zero_le, Bool.and_self, Tr.den, Zu, SL, SM]))
   ((Zc _ _).trans (by simp only [Z0K, Int.lt_irrefl, Zo0 _ g5, ZyB _ g6, Zr1, ZxM, Z7Z, k3, Bool.and_self, Tr.den, Zu, SL, SM]))
 have k1 : ∀ z, ZT Z0K (.b1 n.Z5.Out n.Z5.Out.length 0 n z) = some ⟨n⟩ := fun z =>
  Zgq (fun i => ZT Z0K (.b1 n.Z5.Out n.Z5.Out.length i n z)) n.Z5.Out.length _
   (fun i hi => (Zc _ _).trans (by
    have hp := Zj5 _ (h.tr.po n.Z5.Out[i] (List.getElem_mem hi))
    simp (disch := omega) only [Z0K, hi, hp, ZrN, Zr1, Z7Z, List.set_getElem_self, Nat.zero_le, Bool.and_self, Tr.den, Zu, SL, SM]))
   ((Zc _ _).trans (by simp only [Z0K, Int.lt_irrefl, Zu1 _ (show n.Z5.In.length <= 1000000 by omega), Zr1, Z7Z, k2, Bool.and_self, Tr.den, Zu, SL, SM]))
 refine (Zc _ _).trans ?_
 simp only [Z0K, Zo0 _ g1, ZsD _ g2, ZtD _ g3, ZtP _ (show n.Z5.Out.length <= 1000000 by omega), Zr1, Z7Z, k1, Bool.and_self, Tr.den, Zu, SL, SM]
end Go.Proofs.YtefmbgacbhifdaaGreat
namespace Go.Proofs.YtefmbgacbhifdaaGreat
open Go Go.Proofs.YtefmbgacbhifdaaGreat.Le
set_option maxRecDepth 100000
def Grown (m n : Zg) (c : Nat) : Prop := ∃ s st o, m = { n with Seq := s, ZP := st, Out := n.Out ++ o } /\ o.length <= c /\ ∀ x ∈ o, x.Bytes.length <= 1000
theorem Grown.trans {a b c : Zg} {i j : Nat} (h : Grown b a i) (h' : Grown c b j) : Grown c a (i + j) := by
 obtain ⟨s, st, o, rfl, h1, h2⟩ := h
 obtain ⟨s', st', o', rfl, h1', h2'⟩ := h'
 refine ⟨s', st', o ++ o', by simp, by simp only [List.length_append]; omega, fun x hx => ?_⟩
 rcases List.mem_append.1 hx with h | h
 ·exact h2 x h
 ·exact h2' x h
theorem Grown.size {m n : Zg} {c : Nat} (h : Grown m n c) (hc : c <= 1000) (hn : ZlA n) (ho : n.Out.length <= 1000) : ZlA m := by
 obtain ⟨s, st, o, rfl, h1, h2⟩ := h
 refine ⟨hn.groups, hn.cache, hn.ZvK, hn.tr, hn.fr, hn.low, ?_, fun x hx => ?_⟩
 ·show (n.Out ++ o).length <= 1000000
  rw [List.length_append]
  omega
 ·rcases List.mem_append.1 hx with h | h
  ·exact hn.out.2 x h
  ·exact Nat.le_trans (h2 x h) (by decide)
noncomputable def ZyC (n : Zg) (dst ttl now : Int) (S : Zf × List Zj × Int) : Zg × Int := if S.2.2 = 0 then (S.2.1.foldl (Zzr dst ttl now) { n with Z5 := S.1 }, 0) else (n, S.2.2)
noncomputable def accV (n : Zg) (dst : Int) (app : Bool) (ttl : Int) (b : List Int) : Zt := ⟨n.Address, dst, app, ttl, ⟨n.Address, txv n.IV, n.Seq⟩, Z36 (if app = true then n.App else n.Device) app ⟨n.Address, txv n.IV, n.Seq⟩ dst b⟩
theorem ZoM (n : Zg) (dst : Int) (app : Bool) (ttl : Int) (b : List Int) (now : Int) : Z9K n dst app ttl b now =
 if Z47 dst = false /\ Zad dst = false then (n, 1) else if ttl < 0 then (n, 5) else if ttl > 127 then (n, 5) else if b = [] then (n, 1) else if (b.length : Int) > 380 then (n, 4) else ZyC n dst ttl now (ZgI n.Z5 (accV n dst app ttl b) now) := rfl
theorem ZtQ {n : Zg} {dst : Int} {app : Bool} {ttl : Int} {b : List Int} {now : Int} (h : (Z9K n dst app ttl b now).2 ≠ 0) : (Z9K n dst app ttl b now).1 = n := by
 rw [ZoM] at h ⊢
 split
 ·rfl
 ·rename_i h1
  rw [if_neg h1] at h
  split
  ·rfl
  ·rename_i h2
   rw [if_neg h2] at h
   split
   ·rfl
   ·rename_i h3
    rw [if_neg h3] at h
    split
    ·rfl
    ·rename_i h4
     rw [if_neg h4] at h
     split
     ·rfl
     ·rename_i h5
      rw [if_neg h5] at h
      unfold ZyC at h ⊢
      split
      ·rename_i h6
       rw [if_pos h6] at h
       exact absurd rfl h
      ·rfl
theorem ZlH (n : Zg) (h : ZtJ n) (hz : ZlA n) (dst : Int) (hd : U16 dst) (app : Bool) (ttl : Int) (b : List Int) (now : Int) : Z8N n dst app ttl b now = some (Z9K n dst app ttl b now) := by
 have h1 : Zbr ⟨n, now⟩ dst app ttl b 0 [] = some ⟨⟨(Z9K n dst app ttl b now).1, now⟩, dst, app, ttl, b, (Z9K n dst app ttl b now).2, [], n.Z5.Out, n.Z5.In⟩ := (Zc _ _).trans (by
  simp only [Zb5, ZmD n h dst hd app ttl b now, Bool.and_self, Tr.den, Zu, SL, SM])
 have h2 : ZhQ n now dst app ttl b 0 = some ⟨(Z9K n dst app ttl b now).1, [], dst, app, ttl, b, (Z9K n dst app ttl b now).2⟩ := (Zc _ _).trans (by
  simp only [ZhR, ZdL n hz, h1, Bool.and_self, Tr.den, Zu, SL, SM])
 refine (Zc _ _).trans ?_
 simp only [Zf8, h2, ZdL n hz, Zy2, Bool.and_self, Tr.den, Zu, SL, SM]
 by_cases he : (Z9K n dst app ttl b now).2 = 0
 ·simp only [he, decide_true, Bool.not_true, cond_false]
  exact congrArg some (Prod.ext rfl he.symm)
 ·simp only [decide_eq_false he, Bool.not_false, cond_true]
  exact congrArg some (Prod.ext (ZtQ he).symm rfl)
@[reducible] noncomputable def Z3v (a d p k : Int) (r f : Bool) : Zg := ⟨a, d, p, ⟨0, Z2W k, Z16⟩, Z1I, 0, r, f, [], [], [], ⟨[], []⟩, Z78, Z4D, [], 0, true⟩
theorem ZhB (a d p k : Int) (r f : Bool) : Z4a a d p k r f = some (if Z47 a = true then (Z3v a d p k r f, 0) else (Zi5, 1)) := (Zc _ _).trans (by
 simp only [Zi4, Z7U, Zjp, Tr.den, Zu, Option.bind_some]
 cases Z47 a <;> rfl)
theorem size_empty (n : Zg) (h1 : n.Zb = []) (h2 : n.Cache = []) (h3 : n.Z9 = []) (h4 : n.Z5 = ⟨[], []⟩) (h5 : n.Z4 = Z78) (h6 : n.Low = Z4D) (h7 : n.Out = []) : ZlA n := by
 refine ⟨by simp [h1], by simp [h2], by simp [h3], ?_, ?_, by simp [h6], ?_⟩
 ·rw [h4]; exact ⟨by simp, by simp, (fun _ hm => nomatch hm), (fun _ hm => nomatch hm)⟩
 ·rw [h5]; exact ⟨by simp, by simp, (fun _ hm => nomatch hm)⟩
 ·rw [h7]; exact ⟨by simp, (fun _ hm => nomatch hm)⟩
theorem ZnA : U32 0 := ⟨by decide, by decide⟩
theorem Ztn (a d p k : Int) (r f : Bool) (ha : U16 a) (hd : K64 d) (hp : K64 p) : ZtJ (Z3v a d p k r f) :=
 ⟨⟨ha, ZnA, ZnA, ⟨Z6E _ _ _, Z6E _ _ _⟩, rfl⟩, rfl, Nat.zero_le _, (size_empty (Z3v a d p k r f) rfl rfl rfl rfl rfl rfl rfl).tr, hd, hp⟩
def ZeP (n : Zg) : Zg := { n with Seq := n.ZP, Cache := [], Z5 := ⟨[], []⟩, Z4 := Z78, Low := Z4D, Out := [], Up := true }
theorem Zr9 (n : Zg) (h1 : n.Zb.length <= 1000000) (h2 : n.Z9.length <= 1000000) (now : Int) : Z9z n now = some (ZeP n) := (Zc _ _).trans (by
 have h0 : ZlA (ZeP n) := by
  refine ⟨h1, Nat.zero_le _, h2, ?_, ?_, Nat.zero_le _, ?_⟩
  ·exact ⟨by simp [ZeP], by simp [ZeP], (fun _ hm => nomatch hm), (fun _ hm => nomatch hm)⟩
  ·exact ⟨Nat.zero_le _, Nat.zero_le _, (fun _ hm => nomatch hm)⟩
  ·exact ⟨Nat.zero_le _, (fun _ hm => nomatch hm)⟩
 have := ZdL (ZeP n) h0
 simp only [Zcx]
 rw [show ({ n with Seq := n.ZP, Cache := ([] : List Zd), Z5 := (⟨([] : List Zl), ([] : List Zo)⟩ : Zf), Z4 := (⟨0, ([] : List ZJ), ([] : List Int), 0, false, 0, 0, 0⟩ : ZC), Low := (⟨0, 0, 0, 0, 0, 0, ([] : List Int), 0, false, 0⟩ : ZA), Out := ([] : List ZG), Up := true } : Zg) = ZeP n from rfl, this]
 simp only [Bool.and_self, Tr.den, Zu, SL, SM])
theorem Zv3 (n : Zg) (h1 : n.Out = []) (h2 : n.Z5 = ⟨[], []⟩) (h3 : n.Low.Z0j = 0) : Z4N n = some true := (Zc _ _).trans (by
 have hi : Z1P [] = some ⟨-1⟩ := (Zc _ _).trans ((Zc Z1T (.b1 [] 0 0)).trans rfl)
 have hc : Z1s [] = some ⟨false⟩ := (Zc _ _).trans (by simp only [Z1w, hi, Tr.den, Zu, Option.bind_some]; rfl)
 simp only [ZaY, h1, h2, h3, hc, Tr.den, Zu]
 rfl)
theorem Zzh (n : Zg) (h1 : n.Out ≠ []) : Z4N n = some false := (Zc _ _).trans (by
 simp only [ZaY, len0, h1, Tr.den, Zu, decide_false, cond_false])
theorem ZyR (k : Int) : ∃ B : List Int, B.length = 19 /\ Z9K (Z3v 5 1 2 k true true) 9 true 7 [1] 0 = (outv (Z4x (Z3v 5 1 2 k true true)) 0 B, 0) := by
 have hs : ∀ id, (Z36 2 true id 9 [1]).length = 5 := fun id => by rw [Z36, Zds]; rfl
 generalize hid : (⟨5, txv Z1I, 0⟩ : Zd) = id
 generalize hS : Z36 2 true id 9 [1] = S
 have hS5 : S.length = 5 := by rw [<- hS]; exact hs id
 have hne : S ≠ [] := fun h => by rw [h] at hS5; cases hS5
 have hidseq : id.Seq = 0 := by rw [<- hid]
 have href : Zbv ⟨[], []⟩ ⟨5, 9, true, 7, id, S⟩ = 0 := by
  simp [Zbv, ZlF, hne, hS5, hidseq, ZaD, Z47]
 have hsend : ZgI ⟨[], []⟩ ⟨5, 9, true, 7, id, S⟩ 0 = (⟨[], []⟩, [⟨false, false, true, 0, 0, 0, 0, 0, false, S⟩], 0) := by
  unfold ZgI
  rw [if_pos href, if_pos (by show (S.length : Int) <= 15; omega)]
 have hchk : ZcE ⟨false, false, true, 0, 0, 0, 0, 0, false, S⟩ = 0 := by
  simp [ZcE, Z9E, Zdx, Zna, ZhL, Zst, Zkj, ZqO, hS5]
 have henc : Zjr ⟨false, false, true, 0, 0, 0, 0, 0, false, S⟩ = (num 1 64 ++ S, 0) := by
  unfold Zjr
  rw [if_pos hchk]
  rfl
 have hnid := Z6E k (⟨#[110, 105, 100]⟩ : ByteArray) []
 have hp : ∃ p, p = Zu7 (Z3v 5 1 2 k true true) (Z2W k) 5 9 7 ⟨false, false, true, 0, 0, 0, 0, 0, false, S⟩ := ⟨_, rfl⟩
 obtain ⟨p, hp⟩ := hp
 have hpay : p.Payload = num 1 64 ++ S := by rw [hp, Zu7, henc]
 have hplen : p.Payload.length = 6 := by rw [hpay, List.length_append, Z0U, hS5]
 have hpn : p.NID = (Z2W k).NID := by rw [hp]; rfl
 have hpr : 0 <= p.NID /\ p.NID < 128 := by
  rw [hpn]
  show 0 <= Z4U k _ [] % 128 /\ Z4U k _ [] % 128 < 128
  omega
 have hpt : p.TTL = 7 := by rw [hp]; rfl
 have hps : p.Seq = 0 := by rw [hp]; rfl
 have hpa : p.Src = 5 := by rw [hp]; rfl
 have hpd : p.Dst = 9 := by rw [hp]; rfl
 have hcn : checkN p = 0 := by
  unfold checkN Zi9 Zig
  have e1 : ¬ p.NID < 0 := by omega
  have e2 : ¬ p.NID >= 128 := by omega
  have e3 : p.Payload ≠ [] := fun h => by rw [h] at hplen; cases hplen
  simp [e1, e2, e3, hpt, hps, hpa, hpd, hplen, Z47]
 have hen : ZgK (Z2W k) p = (Z9I (Z2W k) p, 0) := by
  unfold ZgK
  rw [if_pos hcn, if_pos hpn]
 refine ⟨Z9I (Z2W k) p, ?_, ?_⟩
 ·simp only [Z9I, List.length_append, List.length_cons, List.length_nil, ZbI, Zsl, Z0U, Zbz, Zla, hplen]
  rfl
 ·rw [ZoM, if_neg (by decide), if_neg (by decide), if_neg (by decide), if_neg (by decide), if_neg (by decide)]
  show ZyC (Z3v 5 1 2 k true true) 9 7 0 (ZgI ⟨[], []⟩ ⟨5, 9, true, 7, ⟨5, txv Z1I, 0⟩, Z36 2 true ⟨5, txv Z1I, 0⟩ 9 [1]⟩ 0) = _
  rw [hid, hS, hsend]
  show (Zzr 9 7 0 (Z3v 5 1 2 k true true) ⟨false, false, true, 0, 0, 0, 0, 0, false, S⟩, (0 : Int)) = _
  have : Zzr 9 7 0 (Z3v 5 1 2 k true true) ⟨false, false, true, 0, 0, 0, 0, 0, false, S⟩ = outv (Z4x (Z3v 5 1 2 k true true)) 0 (Z9I (Z2W k) p) := by
   show Zjw (Z3v 5 1 2 k true true) (Z2W k) 5 9 7 ⟨false, false, true, 0, 0, 0, 0, 0, false, S⟩ 0 = _
   unfold Zjw
   rw [<- hp, hen, henc, if_pos rfl, if_pos rfl]
  rw [this]
theorem Zok : Zbp = some true := by
 have h1 : Z4a 0 1 2 3 true true = some (Zi5, 1) := ZhB 0 1 2 3 true true
 have h2 : Z4a 5 1 2 3 true true = some (Z3v 5 1 2 3 true true, 0) := ZhB 5 1 2 3 true true
 obtain ⟨B, hB, hs⟩ := ZyR 3
 have h3 : Z8N (Z3v 5 1 2 3 true true) 9 true 7 [1] 0 = some (outv (Z4x (Z3v 5 1 2 3 true true)) 0 B, 0) := by
  rw [ZlH _ (Ztn 5 1 2 3 true true ⟨by decide, by decide⟩ ⟨by decide, by decide⟩ ⟨by decide, by decide⟩) (size_empty _ rfl rfl rfl rfl rfl rfl rfl) 9 ⟨by decide, by decide⟩, hs]
 have h4 : Z9z (outv (Z4x (Z3v 5 1 2 3 true true)) 0 B) 0 = some (ZeP (outv (Z4x (Z3v 5 1 2 3 true true)) 0 B)) := Zr9 _ (Nat.zero_le _) (Nat.zero_le _) 0
 have h5 : Z4N (ZeP (outv (Z4x (Z3v 5 1 2 3 true true)) 0 B)) = some true := Zv3 _ rfl rfl rfl
 have h6 : Z4N (outv (Z4x (Z3v 5 1 2 3 true true)) 0 B) = some false := Zzh _ (by simp [outv])
 refine (Zc _ _).trans ?_
 simp only [Zb8, h1, h2, h3, h4, h5, h6, Tr.den, Zu, Option.bind_some, List.length_cons, List.length_nil]
 have e1 : (outv (Z4x (Z3v 5 1 2 3 true true)) 0 B).Out = [⟨0, B, 0⟩] := rfl
 have e2 : (outv (Z4x (Z3v 5 1 2 3 true true)) 0 B).Seq = 1 := rfl
 have e3 : (outv (Z4x (Z3v 5 1 2 3 true true)) 0 B).ZP = 100 := rfl
 have e4 : (ZeP (outv (Z4x (Z3v 5 1 2 3 true true)) 0 B)).Seq = 100 := rfl
 have e5 : (ZeP (outv (Z4x (Z3v 5 1 2 3 true true)) 0 B)).Out = [] := rfl
 rw [e1, e2, e3, e4, e5]
 simp [hB]
end Go.Proofs.YtefmbgacbhifdaaGreat
namespace Go.Proofs.YtefmbgacbhifdaaGreat
open Go Go.Proofs.YtefmbgacbhifdaaGreat.Le
set_option maxRecDepth 100000
theorem ZsV (a b : Nat) (ha : a < 256) (hb : b < 256) : bits .xor .u8 (a : Int) (b : Int) = ((a ^^^ b : Nat) : Int) := by
 have h : a ^^^ b < 2 ^ 8 := Nat.xor_lt_two_pow (n := 8) ha hb
 have ha' : a % 2 ^ 8 = a := Nat.mod_eq_of_lt ha
 have hb' : b % 2 ^ 8 = b := Nat.mod_eq_of_lt hb
 show IntKind.wrap .u8 (((BitVec.ofInt 8 (a : Int)) ^^^ (BitVec.ofInt 8 (b : Int))).toNat : Int) = _
 simp only [BitVec.ofInt_natCast, BitVec.toNat_xor, BitVec.toNat_ofNat, ha', hb']
 exact wu8 (Int.natCast_nonneg _) (by exact_mod_cast h)
theorem xor8 {a b : Int} (ha : 0 <= a /\ a < 256) (hb : 0 <= b /\ b < 256) : bits .xor .u8 (bits .xor .u8 a b) b = a := by
 obtain ⟨x, rfl⟩ := Int.eq_ofNat_of_zero_le ha.1
 obtain ⟨y, rfl⟩ := Int.eq_ofNat_of_zero_le hb.1
 have hx : x < 256 := by exact_mod_cast ha.2
 have hy : y < 256 := by exact_mod_cast hb.2
 rw [ZsV x y hx hy, ZsV (x ^^^ y) y (Nat.xor_lt_two_pow (n := 8) hx hy) hy, Nat.xor_assoc, Nat.xor_self, Nat.xor_zero]
theorem Zlr : ∀ {a b : List Int}, Bytes a -> Bytes b -> a.length <= b.length -> Z8t (Z8t a b) b = a
 | [], _, _, _, _ => by simp [Z8t]
 | x :: a, [], _, _, h => absurd h (by simp)
 | x :: a, y :: b, ha, hb, h => by
  show bits .xor .u8 (bits .xor .u8 x y) y :: Z8t (Z8t a b) b = x :: a
  rw [xor8 (ha x List.mem_cons_self) (hb y List.mem_cons_self), Zlr (fun z hz => ha z (List.mem_cons_of_mem _ hz)) (fun z hz => hb z (List.mem_cons_of_mem _ hz)) (by simpa using h)]
theorem Znf (k nonce : Int) (hx : K64 nonce) (hd p : List Int) (hh : Bytes hd) (hp : Bytes p) (hl : hd.length <= 1000) (hm : p.length <= 50000) : ZaG k nonce hd (Zj6 k nonce hd p) = some (p, 0) := (Zc _ _).trans (by
 have hlen := Zds k nonce hd p
 have hc : (Z8t p (Z3Y k nonce p.length)).length = p.length := by rw [ZbI, Zbw, Nat.min_self]
 have hw : w64 ((((p.length + 4 : Nat)) : Int) - 4) = (p.length : Int) := by rw [Z1B (by omega) (by omega)]; omega
 have e1 : (Zj6 k nonce hd p).take p.length = Z8t p (Z3Y k nonce p.length) := by rw [Zj6, List.take_append_of_le_length (by omega), List.take_of_length_le (by omega)]
 have e2 : (Zj6 k nonce hd p).drop p.length = Zqf k nonce hd (Z8t p (Z3Y k nonce p.length)) := by
  rw [Zj6, List.drop_append_of_le_length (by omega), List.drop_of_length_le (by omega), List.nil_append]
 have e3 : (Zqf k nonce hd (Z8t p (Z3Y k nonce p.length))).take (p.length + 4 - p.length) = Zqf k nonce hd (Z8t p (Z3Y k nonce p.length)) := List.take_of_length_le (by rw [Zgk]; omega)
 have t1 := Zn3 k nonce hx hd (Z8t p (Z3Y k nonce p.length)) hh (Zhy _ _) hl (by omega)
 have t2 := Zj3 k nonce p.length (by omega)
 have t3 := ZiM (Z8t p (Z3Y k nonce p.length)) (Z3Y k nonce p.length) (by omega)
 have o1 := okB (Zqf k nonce hd (Z8t p (Z3Y k nonce p.length))) (by rw [Zgk]; omega)
 have c1 : decide ((p.length : Int) < 0) = false := decide_eq_false (by omega)
 have c2 : decide (0 <= (p.length : Int) /\ (p.length : Int) <= ((p.length + 4 : Nat) : Int)) = true := decide_eq_true (by omega)
 simp only [Zht, hlen, hw, c1, c2, Int.toNat_natCast, List.drop_zero, Nat.sub_zero, e1, e2, e3, t1, t2, t3, o1, Tr.den, Zu, Option.bind_some, cond_false, cond_true, beq_self_eq_true, Bool.not_true, Zlr hp (ZoW k nonce p.length) (Nat.le_of_eq (Zbw _ _ _).symm)])
theorem Zy8 (app : Bool) (id : Zd) (hid : ZyX id) (dst : Int) (hd : U16 dst) : Z3g app id dst = some (Zge app id, num 2 dst) := by
 have h : ∀ kind, K64 kind -> ZT Z2e (.b1 dst kind id) = some (ZeD kind id.Src id.Seq id.IV, num 2 dst) := fun kind hk => (Zc _ _).trans (by
  simp only [Z2e, Z5H hk hid.src hid.seq hid.iv, ZAe hd, Z0U, Tr.den, Zu, SL, SM])
 refine (Zc _ _).trans ?_
 cases app with
 | true => exact h 1 ⟨by decide, by decide⟩
 | false => exact h 2 ⟨by decide, by decide⟩
theorem Zhv (k : Int) (app : Bool) (id : Zd) (hid : ZyX id) (dst : Int) (hd : U16 dst) (b : List Int) (hb : Bytes b) (hl : b.length <= 50000) : Z43 k app id dst (Z36 k app id dst b) = some (b, 0) := (Zc _ _).trans (by
 have h := Znf k (Zge app id) (Zh8 _ _ _ _) (num 2 dst) b (Z3E _ _) hb (by rw [Z0U]; decide) hl
 simp only [Z6v, Zy8 app id hid dst hd, Z36, h, Tr.den, Zu, SL, SM])
theorem Zb1 (x : Int) (hx : 0 <= x /\ x < 256) (l : List Int) : Z1d (x :: l) = some (x / 128, x % 128, 0) := (Zc _ _).trans (by
 have h0 := hx.1; have h1 := hx.2
 have e1 : w64 (Int.fdiv x (2 ^ (7 : Nat))) = x / 128 := by rw [Int.fdiv_eq_ediv_of_nonneg _ (by decide), Z1B (by omega) (by omega)]; rfl
 have e2 : w64 (bits .and .u8 x 127) = x % 128 := by
  have := bits_mask .u8 8 (by decide) wraps_u8 7 (by decide) x h0 (by show x < 256; exact h1)
  rw [show bits .and .u8 x 127 = x % 128 from this, Z1B (by omega) (by omega)]
 have c1 : decide ((0 : Int) <= 0 /\ (0 : Int) < ((l.length + 1 : Nat) : Int)) = true := decide_eq_true (by omega)
 have c2 : (((l.length + 1 : Nat) : Int) == 0) = false := beq_eq_false_iff_ne.2 (by omega)
 simp only [ZbL, List.length_cons, c1, c2, Tr.den, Zu, cond_false, cond_true]
 rw [show (x :: l)[Int.toNat 0]? = some x from rfl]
 simp only [Option.bind_some, e1, e2])
theorem or16 {a b : Int} (ha : 0 <= a /\ a < 256) (hb : 0 <= b /\ b < 256) : bits .or .u16 (IntKind.wrap .u16 a) (IntKind.wrap .u16 ((IntKind.wrap .u16 b) * 2 ^ (8 : Nat))) = a + 256 * b := by
 rw [ZDj (n := a) (by omega) (by omega), ZDj (n := b) (by omega) (by omega), show (2 : Int) ^ (8 : Nat) = 256 from rfl, ZDj (by omega) (by omega)]
 rw [ZrI .u16 16 (by decide) (fun n h₀ h₁ => ZDj h₀ h₁) 8 (by decide) a (b * 256) (by omega) (by show b * 256 % 256 = 0; omega) (by show _ < (65536 : Int); omega) ha.1 (by show a < 256; omega)]
 omega
theorem or24 {a b c : Int} (ha : 0 <= a /\ a < 256) (hb : 0 <= b /\ b < 256) (hc : 0 <= c /\ c < 256) :
  bits .or .u32 (bits .or .u32 (IntKind.wrap .u32 a) (IntKind.wrap .u32 ((IntKind.wrap .u32 b) * 2 ^ (8 : Nat)))) (IntKind.wrap .u32 ((IntKind.wrap .u32 c) * 2 ^ (16 : Nat))) = a + 256 * b + 65536 * c := by
 rw [ZtG (n := a) (by omega) (by omega), ZtG (n := b) (by omega) (by omega), ZtG (n := c) (by omega) (by omega), show (2 : Int) ^ (8 : Nat) = 256 from rfl, show (2 : Int) ^ (16 : Nat) = 65536 from rfl, ZtG (n := b * 256) (by omega) (by omega), ZtG (n := c * 65536) (by omega) (by omega)]
 rw [ZrI .u32 32 (by decide) wraps_u32 8 (by decide) a (b * 256) (by omega) (by show b * 256 % 256 = 0; omega) (by show _ < (4294967296 : Int); omega) ha.1 (by show a < 256; omega)]
 rw [ZrI .u32 32 (by decide) wraps_u32 16 (by decide) (a + b * 256) (c * 65536) (by omega) (by show c * 65536 % 65536 = 0; omega) (by show _ < (4294967296 : Int); omega) (by omega) (by show _ < (65536 : Int); omega)]
 omega
theorem ZCI {x : Int} (hx : 0 <= x /\ x < 256) : bits .and .u8 x 128 = (if x < 128 then 0 else 128) /\ bits .andNot .u8 x 128 = (if x < 128 then x else x - 128) := by
 have key : ∀ n : Fin 256, bits .and .u8 ((n.val : Nat) : Int) 128 = (if ((n.val : Nat) : Int) < 128 then 0 else 128) /\ bits .andNot .u8 ((n.val : Nat) : Int) 128 = (if ((n.val : Nat) : Int) < 128 then ((n.val : Nat) : Int) else ((n.val : Nat) : Int) - 128) := by decide +kernel
 obtain ⟨y, rfl⟩ := Int.eq_ofNat_of_zero_le hx.1
 exact key ⟨y, by exact_mod_cast hx.2⟩
end Go.Proofs.YtefmbgacbhifdaaGreat
namespace Go.Proofs.YtefmbgacbhifdaaGreat
open Go Go.Proofs.YtefmbgacbhifdaaGreat.Le
set_option maxRecDepth 100000
theorem Zsn {p : Zm} (h : Zua p) : Bytes (Zla p) := ((Bytes.cons (ZtA h) Bytes.nil).app (Z3E _ _)).app (Z3E _ _)
theorem ZpQ (p : Zm) : (Zla p).length = 6 := by simp [Zla, Z0U]
theorem ZpW (k : Zn) (iv : Int) (s : List Int) : (Zsl k iv s).length = 6 := Z0U _ _
theorem ZoP (k : Zn) (p : Zm) : (Z9I k p).length = 13 + p.Payload.length := by
 simp only [Z9I, List.length_append, List.length_cons, List.length_nil, ZbI, ZpQ, ZpW, Zbz]
 omega
theorem Zz0 {p : Zm} (h : Zua p) : (bits .and .u8 (ctl p) 128 != 0) = p.Control /\ w64 (bits .andNot .u8 (ctl p) 128) = p.TTL := by
 have ht := h.ttl
 obtain ⟨e1, e2⟩ := ZCI (ZtA h)
 rw [e1, e2]
 unfold ctl
 cases p.Control with
 | true =>
  simp only [if_true]
  rw [if_neg (by omega), if_neg (by omega)]
  exact ⟨rfl, by rw [Z1B (by omega) (by omega)]; omega⟩
 | false =>
  simp only [Bool.false_eq_true, if_false]
  rw [if_pos (by omega), if_pos (by omega)]
  exact ⟨rfl, Z1B (by omega) (by omega)⟩
theorem ZkZ (k : Zn) (p : Zm) (hr : ZqL p) (hc : checkN p = 0) (hk : p.NID = k.NID) (hb : Bytes p.Payload) : Z18 k p.IV (Z9I k p) = some (p, 0) := by
 have hn := Zgj hc
 have hnid := hn.nid
 have hlen := hn.len
 have hel := ZoP k p
 have hsl := Zbz k p
 have i1 := hr.iv.1
 have s1 := hr.src.1; have s2 := hr.src.2; have d1 := hr.dst.1; have d2 := hr.dst.2; have q1 := hr.seq.1; have q2 := hn.seq
 obtain ⟨o, ho, ho'⟩ := Zkv p hn hr
 obtain ⟨c, hm, hm'⟩ := Zh0 k p.IV hr.iv (Z39 k p) (Zfy _ _ _ _) (by omega) (by omega)
 obtain ⟨x, hx, hx'⟩ := Zpc o c
 obtain ⟨y, hy, hy'⟩ := Zpc x c
 have hX : Z8t (Zla p) (Zsl k p.IV (Z39 k p)) = Zf9 x := by rw [hx', ho', hm']
 have hY : Zf9 y = Zla p := by
  rw [hy', hx', ho', hm']
  exact Zlr (Zsn hn) (Z3E _ _) (by rw [ZpQ, ZpW]; omega)
 have hyl : Zf9 y = [ctl p, p.Seq % 256, p.Seq / 256 % 256, p.Seq / 256 / 256 % 256, p.Src % 256, p.Src / 256 % 256] := hY
 simp only [Zf9, List.cons.injEq, and_true] at hyl
 obtain ⟨y0, y1, y2, y3, y4, y5⟩ := hyl
 have hE : Z9I k p = (p.NID + p.IV % 2 * 128) :: (Zf9 x ++ Z39 k p) := by rw [Z9I, hX]; rfl
 have h2 : ∀ z, ZT Z1V (.b2 p.IV (Z9I k p) k z) = some (p, 0) := fun z => by
  have g1 : (Z9I k p).drop (Int.toNat 1) = Zf9 x ++ Z39 k p := by rw [hE]; rfl
  have g2 : (Zf9 x ++ Z39 k p).take (Int.toNat 7 - Int.toNat 1) = [x.x0, x.x1, x.x2, x.x3, x.x4, x.x5] := rfl
  have g3 : ((Z9I k p).drop (Int.toNat 7)).take ((Z9I k p).length - Int.toNat 7) = Z39 k p := by
   have : (Z9I k p).drop (Int.toNat 7) = Z39 k p := by rw [hE]; rfl
   rw [this, List.take_of_length_le (by rw [hel, hsl]; show _ <= 13 + p.Payload.length - 7; omega)]
  have c7 : decide ((0 : Int) <= 7 /\ (7 : Int) <= ((Z9I k p).length : Int)) = true := decide_eq_true (by rw [hel]; omega)
  have c71 : decide ((0 : Int) <= 1 /\ (1 : Int) <= ((Int.toNat 7 : Nat) : Int)) = true := rfl
  have ZDl : bits .or .u32 (bits .or .u32 (IntKind.wrap .u32 (y.x1)) (IntKind.wrap .u32 ((IntKind.wrap .u32 (y.x2)) * 2 ^ (8 : Nat)))) (IntKind.wrap .u32 ((IntKind.wrap .u32 (y.x3)) * 2 ^ (16 : Nat))) = p.Seq := by
   rw [y1, y2, y3, or24 (by omega) (by omega) (by omega)]; omega
  have esrc : bits .or .u16 (IntKind.wrap .u16 (y.x4)) (IntKind.wrap .u16 ((IntKind.wrap .u16 (y.x5)) * 2 ^ (8 : Nat))) = p.Src := by
   rw [y4, y5, or16 (by omega) (by omega)]; omega
  have edst : bits .or .u16 (IntKind.wrap .u16 (p.Dst % 256)) (IntKind.wrap .u16 ((IntKind.wrap .u16 (p.Dst / 256 % 256)) * 2 ^ (8 : Nat))) = p.Dst := by
   rw [or16 (by omega) (by omega)]; omega
  have hopen : ZaG k.Zfd (ZeD 0 p.Src p.Seq p.IV) [ctl p] (Z39 k p) = some (num 2 p.Dst ++ p.Payload, 0) := Znf _ _ (Zh8 _ _ _ _) _ _ (Bytes.cons (ZtA hn) Bytes.nil) ((Z3E _ _).app hb) (by simp) (by rw [List.length_append, Z0U]; omega)
  have ptk : List.take 1 [y.x0, y.x1, y.x2, y.x3, y.x4, y.x5] = [ctl p] := by rw [y0]; rfl
  have hpl : (num 2 p.Dst ++ p.Payload).length = p.Payload.length + 2 := by rw [List.length_append, Z0U]; omega
  have p0 : (num 2 p.Dst ++ p.Payload)[Int.toNat 0]? = some (p.Dst % 256) := rfl
  have p1 : (num 2 p.Dst ++ p.Payload)[Int.toNat 1]? = some (p.Dst / 256 % 256) := rfl
  have p2 : ((num 2 p.Dst ++ p.Payload).drop (Int.toNat 2)).take ((p.Payload.length + 2) - Int.toNat 2) = p.Payload := by
   have : (num 2 p.Dst ++ p.Payload).drop (Int.toNat 2) = p.Payload := rfl
   rw [this, List.take_of_length_le (by show _ <= p.Payload.length + 2 - 2; omega)]
  have c0 : decide ((0 : Int) <= 0 /\ (0 : Int) < ((p.Payload.length + 2 : Nat) : Int)) = true := decide_eq_true (by omega)
  have c1 : decide ((0 : Int) <= 1 /\ (1 : Int) < ((p.Payload.length + 2 : Nat) : Int)) = true := decide_eq_true (by omega)
  have c2 : decide ((0 : Int) <= 2 /\ (2 : Int) <= ((p.Payload.length + 2 : Nat) : Int)) = true := decide_eq_true (by omega)
  obtain ⟨b1, b2⟩ := Zz0 hn
  have hnonce : Z2M 0 p.Src p.Seq p.IV = some (ZeD 0 p.Src p.Seq p.IV) := Z5H (kind := 0) ⟨by decide, by decide⟩ hr.src hr.seq hr.iv
  refine (Zc _ _).trans ?_
  simp only [Z1V, c7, c71, g1, g2, g3, Tr.den, Zu, cond_true]
  rw [show ([x.x0, x.x1, x.x2, x.x3, x.x4, x.x5])[0]? = some x.x0 from rfl, show ([x.x0, x.x1, x.x2, x.x3, x.x4, x.x5])[1]? = some x.x1 from rfl, show ([x.x0, x.x1, x.x2, x.x3, x.x4, x.x5])[2]? = some x.x2 from rfl, show ([x.x0, x.x1, x.x2, x.x3, x.x4, x.x5])[3]? = some x.x3 from rfl, show ([x.x0, x.x1, x.x2, x.x3, x.x4, x.x5])[4]? = some x.x4 from rfl, show ([x.x0, x.x1, x.x2, x.x3, x.x4, x.x5])[5]? = some x.x5 from rfl]
  simp only [Option.bind_some, hm]
  rw [show (⟨x.x0, x.x1, x.x2, x.x3, x.x4, x.x5⟩ : ZB) = x from rfl, hy]
  simp only [Option.bind_some, ZDl, esrc, hnonce, ptk, hopen, hpl, p0, p1, p2, c0, c1, c2, edst, cond_true, Z4f, cond_false, List.length_cons, List.length_nil, beq_self_eq_true, ZfP p.Payload (by omega)]
  rw [y0, b1, b2]
  have hps : (⟨p.IV, k.NID, p.Control, p.TTL, p.Seq, p.Src, p.Dst, p.Payload⟩ : Zm) = p := by rw [<- hk]
  rw [hps, Zej, hc]
  rfl
 have hhint : Z1d (Z9I k p) = some (p.IV % 2, k.NID, 0) := by
  rw [hE, Zb1 _ (by omega), show (p.NID + p.IV % 2 * 128) / 128 = p.IV % 2 by omega, show (p.NID + p.IV % 2 * 128) % 128 = p.NID by omega, hk]
 have e1 : w64 (bits .and .u32 p.IV 1) = p.IV % 2 := by rw [and1 p.IV hr.iv, Z1B (by omega) (by omega)]
 refine (Zc _ _).trans ?_
 simp only [Z1V, hel, hhint, e1, h2, Z4f, Tr.den, Zu, Option.bind_some, cond_false]
 rw [show decide (((13 + p.Payload.length : Nat) : Int) < 14) = false from decide_eq_false (by omega), show decide (((13 + p.Payload.length : Nat) : Int) > 29) = false from decide_eq_false (by omega)]
 rfl
theorem Zga (k k' : Zn) (p : Zm) (iv : Int) (hr : ZqL p) (hc : checkN p = 0) (hk : p.NID = k.NID) (hne : k'.NID ≠ k.NID) : Z18 k' iv (Z9I k p) = some (Z3I, 17) := by
 have hn := Zgj hc
 have hnid := hn.nid
 have hlen := hn.len
 have i1 := hr.iv.1
 have hel := ZoP k p
 have hhint : Z1d (Z9I k p) = some (p.IV % 2, k.NID, 0) := by
  rw [show Z9I k p = (p.NID + p.IV % 2 * 128) :: (Z8t (Zla p) (Zsl k p.IV (Z39 k p)) ++ Z39 k p) from rfl, Zb1 _ (by omega), show (p.NID + p.IV % 2 * 128) / 128 = p.IV % 2 by omega, show (p.NID + p.IV % 2 * 128) % 128 = p.NID by omega, hk]
 have h1 : ∀ z, ZT Z1V (.b1 z) = some (Z3I, 17) := fun z => (Zc _ _).trans rfl
 refine (Zc _ _).trans ?_
 simp only [Z1V, hel, hhint, h1, Tr.den, Zu, Option.bind_some]
 rw [show decide (((13 + p.Payload.length : Nat) : Int) < 14) = false from decide_eq_false (by omega), show decide (((13 + p.Payload.length : Nat) : Int) > 29) = false from decide_eq_false (by omega), show (k.NID != k'.NID) = true by simpa [bne_iff_ne] using Ne.symm hne]
 rfl
end Go.Proofs.YtefmbgacbhifdaaGreat
namespace Go.Proofs.YtefmbgacbhifdaaGreat
open Go Go.Proofs.YtefmbgacbhifdaaGreat.Le
set_option maxRecDepth 100000
def ZmL (app : Bool) (S : List Int) : Zj := ⟨false, false, app, 0, 0, 0, 0, 0, false, S⟩
def ZrB (app : Bool) : Int := if app = true then 64 else 0
theorem ZsN (app : Bool) (S : List Int) (h : 1 <= S.length /\ S.length <= 15) : ZcE (ZmL app S) = 0 := by
 have h1 : ¬ (S.length : Int) < 1 := by omega
 have h2 : ¬ (S.length : Int) > 15 := by omega
 simp [ZmL, ZcE, Z9E, Zdx, Zna, ZhL, Zst, Zkj, ZqO, h1, h2]
theorem Zxd (app : Bool) (S : List Int) (h : 1 <= S.length /\ S.length <= 15) : Zjr (ZmL app S) = (ZrB app :: S, 0) := by
 unfold Zjr
 rw [if_pos (ZsN app S h)]
 cases app <;> rfl
theorem ZAx (app : Bool) (S : List Int) (h : 1 <= S.length /\ S.length <= 15) : Z3r false (ZrB app :: S) = some (ZmL app S, 0) := by
 have c0 : decide ((0 : Int) <= 0 /\ (0 : Int) < ((S.length + 1 : Nat) : Int)) = true := decide_eq_true (by omega)
 have c1 : decide ((0 : Int) <= 1 /\ (1 : Int) <= ((S.length + 1 : Nat) : Int)) = true := decide_eq_true (by omega)
 have cl : (((S.length + 1 : Nat) : Int) == 0) = false := beq_eq_false_iff_ne.2 (by omega)
 have e1 : (bits .andNot .u8 (ZrB app) 192 != 0) = false := by cases app <;> decide
 have e2 : (bits .and .u8 (ZrB app) 128 != 0) = false := by cases app <;> decide
 have e3 : (bits .and .u8 (ZrB app) 64 != 0) = app := by cases app <;> decide
 have d1 : ((ZrB app :: S).drop (Int.toNat 1)).take (S.length + 1 - Int.toNat 1) = S := by
  have : (ZrB app :: S).drop (Int.toNat 1) = S := rfl
  rw [this, List.take_of_length_le (by show _ <= S.length + 1 - 1; omega)]
 have g0 : (ZrB app :: S)[Int.toNat 0]? = some (ZrB app) := rfl
 have ha : Z5F (ZrB app :: S) = some (ZmL app S, 0) := (Zc _ _).trans (by
  simp only [Z5g, List.length_cons, c0, c1, g0, e1, e2, e3, d1, ZfP S (by omega), Tr.den, Zu, Option.bind_some, cond_true, cond_false, Bool.not_false, List.length_nil, beq_self_eq_true]
  rfl)
 have h1 : ∀ z, ZT Z3t (.b1 0 z (ZmL app S)) = some (ZmL app S, 0) := fun z => (Zc _ _).trans rfl
 refine (Zc _ _).trans ?_
 simp only [Z3t, List.length_cons, cl, ha, Z6w, ZsN app S h, h1, Tr.den, Zu, Option.bind_some, cond_false, cond_true, beq_self_eq_true]
noncomputable def Z4p (d p : Int) (app : Bool) (a dst : Int) (b : List Int) : List Int := Z36 (if app = true then p else d) app ⟨a, 0, 0⟩ dst b
noncomputable def ZtC (a d p k : Int) (app : Bool) (dst ttl : Int) (b : List Int) : Zm := ⟨0, (Z2W k).NID, false, ttl, 0, a, dst, ZrB app :: Z4p d p app a dst b⟩
theorem Zcp (d p : Int) (app : Bool) (a dst : Int) (b : List Int) : (Z4p d p app a dst b).length = b.length + 4 := by rw [Z4p, Z36, Zds]
theorem ZCR (k : Int) : 0 <= (Z2W k).NID /\ (Z2W k).NID < 128 := by
 have := Z6E k (⟨#[110, 105, 100]⟩ : ByteArray) []
 show 0 <= Z4U k _ [] % 128 /\ Z4U k _ [] % 128 < 128
 omega
theorem ZsQ (a d p k : Int) (app : Bool) (dst ttl : Int) (b : List Int) (ha : Z47 a = true) (hd : Z47 dst = true) (ht : 0 <= ttl /\ ttl <= 127) (hl : b.length <= 11) : checkN (ZtC a d p k app dst ttl b) = 0 := by
 have hn := ZCR k
 have e1 : ¬ (Z2W k).NID < 0 := by omega
 have e2 : ¬ (Z2W k).NID >= 128 := by omega
 have e3 : ¬ ttl < 0 := by omega
 have e4 : ¬ ttl > 127 := by omega
 have e5 : ¬ (((ZrB app :: Z4p d p app a dst b).length : Nat) : Int) > 16 := by rw [List.length_cons, Zcp]; omega
 unfold checkN Zi9 Zig
 show (if (Z2W k).NID < 0 then _ else if (Z2W k).NID >= 128 then _ else if ttl < 0 then _ else if ttl > 127 then _ else if (0 : Int) > 16777215 then _ else if Z47 a = false then _ else if Z47 dst = false /\ Zad dst = false then _ else if ZrB app :: Z4p d p app a dst b = [] then _ else if (((ZrB app :: Z4p d p app a dst b).length : Nat) : Int) > 16 then _ else _ : Int) = 0
 rw [if_neg e1, if_neg e2, if_neg e3, if_neg e4, if_neg (by decide), if_neg (by rw [ha]; decide), if_neg (by rw [hd]; exact fun h => by cases h.1), if_neg (List.cons_ne_nil _ _), if_neg e5]
theorem Zyq (a d p k : Int) (r f : Bool) (ha : Z47 a = true) (dst : Int) (hd : Z47 dst = true) (app : Bool) (ttl : Int) (ht : 0 <= ttl /\ ttl <= 127) (b : List Int) (hb : b ≠ []) (hl : b.length <= 11) (now : Int) :
  Z9K (Z3v a d p k r f) dst app ttl b now = (outv (Z4x (Z3v a d p k r f)) now (Z9I (Z2W k) (ZtC a d p k app dst ttl b)), 0) := by
 have hS := Zcp d p app a dst b
 have hbl := List.length_pos_iff.2 hb
 have hne : Z4p d p app a dst b ≠ [] := fun h => by rw [h] at hS; simp at hS
 have href : Zbv ⟨[], []⟩ ⟨a, dst, app, ttl, ⟨a, 0, 0⟩, Z4p d p app a dst b⟩ = 0 := by
  unfold Zbv ZlF
  show (bif !Z47 a || (!Z47 dst && !Zad dst) || decide (Z4p d p app a dst b = []) then 1 else (if ((Z4p d p app a dst b).length : Int) > 384 then 4 else if 0 + ZaD ((Z4p d p app a dst b).length : Int) - 1 > 16777215 then 5 else if ((Z4p d p app a dst b).length : Int) <= 15 then 0 else _)) = 0
  have hc := Ztt (Z4p d p app a dst b).length
  rw [ha, hd, decide_eq_false hne, if_neg (by omega), if_neg (by omega), if_pos (by omega)]
  rfl
 have hsend : ZgI ⟨[], []⟩ ⟨a, dst, app, ttl, ⟨a, 0, 0⟩, Z4p d p app a dst b⟩ now = (⟨[], []⟩, [ZmL app (Z4p d p app a dst b)], 0) := by
  unfold ZgI
  rw [if_pos href, if_pos (by show ((Z4p d p app a dst b).length : Int) <= 15; omega)]
  rfl
 rw [ZoM, if_neg (by rw [hd]; exact fun h => by cases h.1), if_neg (by omega), if_neg (by omega), if_neg hb, if_neg (by omega)]
 show ZyC (Z3v a d p k r f) dst ttl now (ZgI ⟨[], []⟩ ⟨a, dst, app, ttl, ⟨a, 0, 0⟩, Z4p d p app a dst b⟩ now) = _
 rw [hsend]
 show (Zzr dst ttl now (Z3v a d p k r f) (ZmL app (Z4p d p app a dst b)), (0 : Int)) = _
 have : Zzr dst ttl now (Z3v a d p k r f) (ZmL app (Z4p d p app a dst b)) = outv (Z4x (Z3v a d p k r f)) now (Z9I (Z2W k) (ZtC a d p k app dst ttl b)) := by
  show Zjw (Z3v a d p k r f) (Z2W k) a dst ttl (ZmL app (Z4p d p app a dst b)) now = _
  have hpd : Zu7 (Z3v a d p k r f) (Z2W k) a dst ttl (ZmL app (Z4p d p app a dst b)) = ZtC a d p k app dst ttl b := by
   unfold Zu7 ZtC
   rw [Zxd app _ ⟨by omega, by omega⟩]
   rfl
  have hen : ZgK (Z2W k) (ZtC a d p k app dst ttl b) = (Z9I (Z2W k) (ZtC a d p k app dst ttl b), 0) := by
   unfold ZgK
   rw [if_pos (ZsQ a d p k app dst ttl b ha hd ht hl), if_pos (show (ZtC a d p k app dst ttl b).NID = (Z2W k).NID from rfl)]
  unfold Zjw
  rw [hpd, hen, Zxd app _ ⟨by omega, by omega⟩, if_pos rfl, if_pos rfl]
 rw [this]
theorem ZBR (bit : Int) (h : bit = 0) : Z6V Z1I bit = some (0, true) := (Zc _ _).trans (by
 subst h
 have h1 : ZT Z9s (.b1 0 Z1I) = some (0, true) := (Zc _ _).trans rfl
 simp only [Z9s, h1, Tr.den, Zu]
 rfl)
theorem ZiH (k o : Zn) : Z0A ⟨0, k, o⟩ = some [k] := (Zc _ _).trans rfl
section
variable (a d p k : Int) (r f : Bool) (now : Int)
theorem Zqw (E : List Int) (P : Zm) (x : Int) (hh : Z1d E = some (0, x, 0)) (hd : Z18 (Z2W k) 0 E = some (P, 0)) (ev : List Za) :
  Z2g E ⟨Z3v a d p k r f, now⟩ ev = some ⟨⟨P, Z2W k, false⟩, true, ⟨Z3v a d p k r f, now⟩, ev⟩ := by
 have h1 : ∀ z, ZT ZO (.b1 E 0 [Z2W k] [Z2W k] ((1 : Nat) : Int) 0 ⟨Z3v a d p k r f, now⟩ ev z) = some ⟨⟨P, Z2W k, false⟩, true, ⟨Z3v a d p k r f, now⟩, ev⟩ := fun z => (Zc _ _).trans (by
  simp only [ZO, List.length_cons, List.length_nil, Tr.den, Zu]
  rw [show decide ((0 : Int) < ((1 : Nat) : Int)) = true from rfl, show decide ((0 : Int) <= 0 /\ (0 : Int) < (((0 + 1 : Nat)) : Int)) = true from rfl, show ([Z2W k])[Int.toNat 0]? = some (Z2W k) from rfl]
  simp only [cond_true, Option.bind_some, hd, beq_self_eq_true, Bool.and_self])
 refine (Zc _ _).trans ?_
 have hrx : Z6V (Z3v a d p k r f).IV 0 = some (0, true) := ZBR 0 rfl
 have hrc : Z0A (Z3v a d p k r f).Keys = some [Z2W k] := ZiH _ _
 simp only [ZO, hh, hrx, hrc, Z4f, Tr.den, Zu, Option.bind_some, cond_false, cond_true, Bool.not_true, beq_self_eq_true, Bool.and_self]
 exact h1 _
theorem Zsq (E : List Int) (P : Zm) (e : Int) (he : e ≠ 0) (x : Int) (hh : Z1d E = some (0, x, 0)) (hd : Z18 (Z2W k) 0 E = some (P, e)) (ev : List Za) :
  ∃ H, Z2g E ⟨Z3v a d p k r f, now⟩ ev = some ⟨H, false, ⟨Z3v a d p k r f, now⟩, ev⟩ := by
 refine ⟨⟨⟨0, 0, false, 0, 0, 0, 0, []⟩, Z16, false⟩, ?_⟩
 have h2 : ∀ z, ZT ZO (.b2 ⟨Z3v a d p k r f, now⟩ ev z) = some ⟨⟨⟨0, 0, false, 0, 0, 0, 0, []⟩, Z16, false⟩, false, ⟨Z3v a d p k r f, now⟩, ev⟩ := fun z => (Zc _ _).trans (by
  simp only [ZO, Tr.den, Zu, cond_true, beq_self_eq_true, Bool.and_self])
 have h1' : ∀ z, ZT ZO (.b1 E 0 [Z2W k] [Z2W k] ((1 : Nat) : Int) ((1 : Nat) : Int) ⟨Z3v a d p k r f, now⟩ ev z) = some ⟨⟨⟨0, 0, false, 0, 0, 0, 0, []⟩, Z16, false⟩, false, ⟨Z3v a d p k r f, now⟩, ev⟩ := fun z => (Zc _ _).trans (by
  simp only [ZO, h2, Int.lt_irrefl, decide_false, Tr.den, Zu, cond_false, cond_true, beq_self_eq_true, Bool.and_self]
  rfl)
 have h1 : ∀ z, ZT ZO (.b1 E 0 [Z2W k] [Z2W k] ((1 : Nat) : Int) 0 ⟨Z3v a d p k r f, now⟩ ev z) = some ⟨⟨⟨0, 0, false, 0, 0, 0, 0, []⟩, Z16, false⟩, false, ⟨Z3v a d p k r f, now⟩, ev⟩ := fun z => (Zc _ _).trans (by
  simp only [ZO, List.length_cons, List.length_nil, Tr.den, Zu]
  rw [show decide ((0 : Int) < ((1 : Nat) : Int)) = true from rfl, show decide ((0 : Int) <= 0 /\ (0 : Int) < (((0 + 1 : Nat)) : Int)) = true from rfl, show ([Z2W k])[Int.toNat 0]? = some (Z2W k) from rfl]
  have he' : (e == 0) = false := beq_eq_false_iff_ne.2 he
  simp only [cond_true, cond_false, Option.bind_some, hd, he', beq_self_eq_true, Bool.and_self]
  exact h1' z)
 refine (Zc _ _).trans ?_
 have hrx : Z6V (Z3v a d p k r f).IV 0 = some (0, true) := ZBR 0 rfl
 have hrc : Z0A (Z3v a d p k r f).Keys = some [Z2W k] := ZiH _ _
 simp only [ZO, hh, hrx, hrc, Z4f, Tr.den, Zu, Option.bind_some, cond_false, cond_true, Bool.not_true, beq_self_eq_true, Bool.and_self]
 exact h1 _
end
theorem Zwn (id : Zd) : Z5V [] id = some false := by
 have h1 : Z4m [] id = some (-1) := (Zc _ _).trans ((Zc Z4o (.b1 [] 0 0 id)).trans rfl)
 have h2 : Z35 [] id = some false := (Zc _ _).trans (by simp only [Z32, h1, Tr.den, Zu, Option.bind_some]; rfl)
 exact (Zc _ _).trans (by simp only [Zb2, h2, Tr.den, Zu, Option.bind_some])
theorem Zsc (id : Zd) : Z4e [] id = some [id] := (Zc _ _).trans (by
 have h1 : Z1u ⟨[], 256⟩ id = some ⟨[id], 256⟩ := (Zc _ _).trans (by
  simp (disch := omega) only [Z1q, ZsD [] (Nat.zero_le _), Tr.den, Zu, SL, SM])
 have h2 : ZT Z2E (.b1 ⟨[id], 256⟩) = some [id] := (Zc _ _).trans (by
  have : Z1c ⟨[id], 256⟩ = some [id] := (Zc _ _).trans (by
   have e : (if w64 (((0 + 1 : Nat) : Int) - 256) > 0 then w64 (((0 + 1 : Nat) : Int) - 256) else 0) = 0 := by
    rw [Z1B (by omega) (by omega)]
    rfl
   simp only [Z1a, List.length_cons, List.length_nil, e, Tr.den, Zu]
   rw [show (([id].drop (Int.toNat 0)).take (0 + 1 - Int.toNat 0)) = [id] from rfl, ZsD [id] (by simp)]
   rfl)
  simp only [Z2E, this, Tr.den, Zu, Option.bind_some])
 simp only [Z2E, Zwn, h1, h2, Tr.den, Zu, Option.bind_some, Bool.not_false, cond_true])
theorem ZzE (src : Int) : Z9g [] src = some (-1) := (Zc _ _).trans (by
 have h1 : Z2s [] src = some ⟨-1, src⟩ := (Zc _ _).trans ((Zc Z2v (.b1 [] 0 0 src)).trans rfl)
 simp only [ZcO, h1, Tr.den, Zu, Option.bind_some])
theorem Ztl (id : Zd) : Z6N [] id = some 0 := (Zc _ _).trans (by
 have h0 : Z1i ⟨[], 32⟩ = some false := (Zc _ _).trans rfl
 have h1 : ZT Z4B (.b1 [] (-1)) = some 0 := (Zc _ _).trans (by
  simp only [Z4B, h0, Tr.den, Zu]
  rfl)
 simp only [Z4B, ZzE, h1, Tr.den, Zu, Option.bind_some]
 rfl)
theorem ZwN (id : Zd) : Z8X [] id = some ([id], 0) := (Zc _ _).trans (by
 have h1 : Z1o ⟨[], 32⟩ id = some ⟨[id], 32⟩ := (Zc _ _).trans (by
  simp (disch := omega) only [Z1n, ZtD [] (Nat.zero_le _), Tr.den, Zu, SL, SM])
 simp only [Z8Q, Ztl, ZzE, h1, Z4f, Tr.den, Zu, Option.bind_some, cond_false]
 rfl)
theorem Zvd (src dst : Int) (id : Zd) (ttl : Int) (app : Bool) (S : List Int) (h : 1 <= S.length /\ S.length <= 15) (now : Int) : Z4Y ⟨[], []⟩ src dst id ttl (ZmL app S) now = some (⟨[], []⟩, [⟨src, dst, app, ttl, id, S⟩], false) := (Zc _ _).trans (by
 have h0 : TOK ⟨[], []⟩ := ⟨by simp, by simp, (fun _ hm => nomatch hm), (fun _ hm => nomatch hm)⟩
 have h2 : ∀ x y z u, ZT Z1S (.b2 src dst ttl x y z ⟨[], []⟩ id (ZmL app S) u) = some (⟨[], []⟩, [⟨src, dst, app, ttl, id, S⟩], false) := fun x y z u => (Zc _ _).trans (by
  simp only [Z1S, ZmL, ZfP S (by omega), Tr.den, Zu, SL, SM])
 simp only [Z1S, Zak _ h0, Z6w, ZsN app S h, Z4f, h2, Tr.den, Zu, Option.bind_some, cond_false, beq_self_eq_true, Bool.and_self, cond_true, List.length_nil]
 rfl)
end Go.Proofs.YtefmbgacbhifdaaGreat
namespace Go.Proofs.YtefmbgacbhifdaaGreat
open Go Go.Proofs.YtefmbgacbhifdaaGreat.Le
set_option maxRecDepth 100000
theorem ZBc (a d p k : Int) (app : Bool) (dst ttl : Int) (b : List Int) (ha : U16 a) (hd : U16 dst) : ZqL (ZtC a d p k app dst ttl b) := ⟨ZnA, ZnA, ha, hd⟩
theorem ZtW (a d p k : Int) (app : Bool) (dst ttl : Int) (b : List Int) : Bytes (ZtC a d p k app dst ttl b).Payload := Bytes.cons (by cases app <;> exact ⟨by decide, by decide⟩) (Zfy _ _ _ _)
theorem ZwW (src d p k : Int) (a : Int) (r f : Bool) (key : Zn) (now : Int) (app : Bool) (dst ttl : Int) (b : List Int) (hb : Bytes b) (hl : b.length <= 11) (hs : U16 src) (hd : U16 dst) (n : Zg)
  (hn : n.Z9 = []) (ht : n.Z5 = ⟨[], []⟩) (hk : n.Device = d) (hp : n.App = p) (P : Zm) (h1 : P.Src = src) (h2 : P.Dst = dst) (h3 : P.TTL = ttl) :
  Z2Q ⟨P, key, false⟩ ⟨src, 0, 0⟩ (ZmL app (Z4p d p app src dst b)) ⟨n, now⟩ [] =
   some ⟨⟨{ n with Z9 := [⟨src, 0, 0⟩] }, now⟩, [⟨1, ⟨src, dst, app, ttl, ⟨src, 0, 0⟩, b⟩, 0, 0⟩], [], [], []⟩ := (Zc _ _).trans (by
 have hS := Zcp d p app src dst b
 have hrec := Zvd src dst ⟨src, 0, 0⟩ ttl app (Z4p d p app src dst b) ⟨by omega, by omega⟩ now
 have hkey : ∀ w : Z0g, Z2f w app = some (if app = true then w.Node.App else w.Node.Device) := fun w => (Zc _ _).trans (by cases app <;> rfl)
 have hopen : Z43 (if app = true then p else d) app ⟨src, 0, 0⟩ dst (Z4p d p app src dst b) = some (b, 0) := Zhv _ app ⟨src, 0, 0⟩ ⟨hs, ZnA, ZnA⟩ dst hd b hb (by omega)
 have hnote : ∀ e : Za, ZcW e [] = some ⟨[e]⟩ := fun e => (Zc _ _).trans (by simp (disch := omega) only [Zd9, Tr.den, Zu, SL, SM])
 let n1 : Zg := { n with Z5 := ⟨[], []⟩ }
 let ac : Zt := ⟨src, dst, app, ttl, ⟨src, 0, 0⟩, Z4p d p app src dst b⟩
 have hn1 : n1 = n := by show ({ n with Z5 := ⟨[], []⟩ } : Zg) = n; rw [<- ht]
 have k1 : ∀ i : Nat, i = 1 -> ∀ (m : Zg) ev, ZT ZW (.b1 [ac] ((1 : Nat) : Int) i ⟨m, now⟩ ev [] [] []) = some ⟨⟨m, now⟩, ev, [], [], []⟩ := fun i hi m ev => (Zc _ _).trans (by
  subst hi
  simp only [ZW, Int.lt_irrefl, Bool.and_self, Tr.den, Zu, SL, SM])
 have k2 : ∀ (m : Zg) ev, ZT ZW (.b2 [ac] ((1 : Nat) : Int) 0 ⟨m, now⟩ ev [] [] []) = some ⟨⟨m, now⟩, ev, [], [], []⟩ := fun m ev => (Zc _ _).trans (by
  have := k1 1 rfl m ev
  simp only [ZW, Bool.and_self, Tr.den, Zu, SL, SM]
  exact this)
 have k0 : ZT ZW (.b1 [ac] ((1 : Nat) : Int) 0 ⟨n, now⟩ [] [] [] []) = some ⟨⟨{ n with Z9 := [⟨src, 0, 0⟩] }, now⟩, [⟨1, ⟨src, dst, app, ttl, ⟨src, 0, 0⟩, b⟩, 0, 0⟩], [], [], []⟩ := (Zc _ _).trans (by
  have hc := Ztl ac.Seq
  have ha := ZwN ac.Seq
  simp only [ZW, List.length_cons, List.length_nil, Tr.den, Zu]
  rw [show decide ((0 : Int) < ((1 : Nat) : Int)) = true from rfl, show decide ((0 : Int) <= 0 /\ (0 : Int) < (((0 + 1 : Nat)) : Int)) = true from rfl, show ([ac])[Int.toNat 0]? = some ac from rfl]
  simp only [cond_true, Option.bind_some, hn, hc, Z4f, cond_false, hkey, ha]
  rw [hp, hk, show ac.App = app from rfl, show ac.Seq = ⟨src, 0, 0⟩ from rfl, show ac.Dst = dst from rfl, show ac.Bytes = Z4p d p app src dst b from rfl, hkey]
  simp only [Option.bind_some, hopen, Z4f, cond_false, hnote, beq_self_eq_true, Bool.and_self, cond_true]
  exact k2 _ _)
 simp only [ZW, ht, h1, h2, h3, hrec, hn, Tr.den, Zu, Option.bind_some, List.length_cons, List.length_nil, beq_self_eq_true, Bool.and_self, cond_true]
 rw [show ({ n with Z5 := ⟨[], []⟩, Z9 := [] } : Zg) = n by rw [<- ht, <- hn]]
 rw [ht] at k0
 exact k0)
section
variable (d p k : Int) (r f : Bool) (now : Int)
theorem Zus (B : Int) (E : List Int) (a : Int) (app : Bool) (ttl : Int) (b : List Int) (hb : Bytes b) (hl : b.length <= 11) (ha : U16 a) (hB : U16 B) (hne : a ≠ B) (ha0 : a ≠ 0) (ht : 2 <= ttl)
  (hE : E.length = 13 + (ZtC a d p k app B ttl b).Payload.length) (x : Int) (hh : Z1d E = some (0, x, 0)) (hd : Z18 (Z2W k) 0 E = some (ZtC a d p k app B ttl b, 0)) :
  ∃ n' c q o i, Z1Q E ⟨Z3v B d p k r f, now⟩ [] = some ⟨⟨n', now⟩, [⟨1, ⟨a, B, app, ttl, ⟨a, 0, 0⟩, b⟩, 0, 0⟩], c, q, o, i⟩ := by
 have hS := Zcp d p app a B b
 let P := ZtC a d p k app B ttl b
 let n0 := Z3v B d p k r f
 let n1 : Zg := { Z3v B d p k r f with Cache := [⟨a, 0, 0⟩] }
 have hmsg := ZwW a d p k B r f (Z2W k) now app B ttl b hb hl ha hB n1 rfl rfl rfl rfl P rfl rfl rfl
 have hmine : Z3Q B ⟨n1, now⟩ [] = some ⟨true, ⟨n1, now⟩, []⟩ := (Zc _ _).trans (by
  simp only [Z3W, show (B == n1.Address) = true from beq_self_eq_true B, Tr.den, Zu, cond_true, beq_self_eq_true, Bool.and_self])
 have hkeep : Z3B P (ZmL app (Z4p d p app a B b)) ⟨n1, now⟩ [] = some ⟨⟨n1, now⟩, []⟩ := (Zc _ _).trans (by
  have hw := Zep n1.Z4 rfl P.Dst
  simp only [Z3M, hw, Bool.and_self, Tr.den, Zu, SL, SM])
 refine ⟨{ n1 with Z9 := [⟨a, 0, 0⟩] }, [], [], [], [], ?_⟩
 have k6 : ZT ZI (.b6 ⟨n1, now⟩ [] ⟨P, Z2W k, false⟩ ⟨a, 0, 0⟩ (ZmL app (Z4p d p app a B b)) []) = some ⟨⟨{ n1 with Z9 := [⟨a, 0, 0⟩] }, now⟩, [⟨1, ⟨a, B, app, ttl, ⟨a, 0, 0⟩, b⟩, 0, 0⟩], [], [], [], []⟩ := (Zc _ _).trans (by
  simp only [ZI, show P.Dst = B from rfl, hmine, hmsg, show (ZmL app (Z4p d p app a B b)).Control = false from rfl, Bool.and_self, Tr.den, Zu, SL, SM])
 have k5 : ZT ZI (.b5 ⟨n1, now⟩ [] ⟨P, Z2W k, false⟩ ⟨a, 0, 0⟩ (ZmL app (Z4p d p app a B b)) []) = some ⟨⟨{ n1 with Z9 := [⟨a, 0, 0⟩] }, now⟩, [⟨1, ⟨a, B, app, ttl, ⟨a, 0, 0⟩, b⟩, 0, 0⟩], [], [], [], []⟩ := (Zc _ _).trans (by
  simp only [ZI, hkeep, k6, Bool.and_self, Tr.den, Zu, SL, SM])
 have k4 : ZT ZI (.b4 ⟨n1, now⟩ [] ⟨P, Z2W k, false⟩ ⟨a, 0, 0⟩ []) = some ⟨⟨{ n1 with Z9 := [⟨a, 0, 0⟩] }, now⟩, [⟨1, ⟨a, B, app, ttl, ⟨a, 0, 0⟩, b⟩, 0, 0⟩], [], [], [], []⟩ := (Zc _ _).trans (by
  have hdec : Z3r P.Control P.Payload = some (ZmL app (Z4p d p app a B b), 0) := ZAx app _ ⟨by omega, by omega⟩
  have hsrc : (P.Src != n1.Z4.Low) = true := bne_iff_ne.2 ha0
  simp only [ZI, hdec, hsrc, Z4f, k5, Bool.and_self, Tr.den, Zu, SL, SM])
 have k2 : ZT ZI (.b2 ⟨n0, now⟩ [] ⟨P, Z2W k, false⟩) = some ⟨⟨{ n1 with Z9 := [⟨a, 0, 0⟩] }, now⟩, [⟨1, ⟨a, B, app, ttl, ⟨a, 0, 0⟩, b⟩, 0, 0⟩], [], [], [], []⟩ := (Zc _ _).trans (by
  have hseen : Z5V n0.Cache ⟨P.Src, P.IV, P.Seq⟩ = some false := Zwn _
  have hrem : Z4e n0.Cache ⟨P.Src, P.IV, P.Seq⟩ = some [⟨a, 0, 0⟩] := Zsc _
  have hdst : (P.Dst != n0.Address) = false := Z4f B
  have httl : decide (P.TTL >= 2) = true := decide_eq_true ht
  have k4' : ZT ZI (.b4 ⟨{ n0 with Cache := [⟨a, 0, 0⟩] }, now⟩ [] ⟨P, Z2W k, false⟩ ⟨P.Src, P.IV, P.Seq⟩ n0.Cache) = some ⟨⟨{ n1 with Z9 := [⟨a, 0, 0⟩] }, now⟩, [⟨1, ⟨a, B, app, ttl, ⟨a, 0, 0⟩, b⟩, 0, 0⟩], [], [], [], []⟩ := k4
  simp only [ZI, hseen, hrem, hdst, httl, k4', Bool.and_self, Tr.den, Zu, SL, SM]
  cases r <;> rfl)
 have k1 : ZT ZI (.b1 E ⟨Z3v B d p k r f, now⟩ []) = some ⟨⟨{ n1 with Z9 := [⟨a, 0, 0⟩] }, now⟩, [⟨1, ⟨a, B, app, ttl, ⟨a, 0, 0⟩, b⟩, 0, 0⟩], [], [], [], []⟩ := (Zc _ _).trans (by
  have h13 : (((E.length : Nat) : Int) == 13) = false := beq_eq_false_iff_ne.2 (by
   rw [hE]
   show ((13 + (ZrB app :: Z4p d p app a B b).length : Nat) : Int) ≠ 13
   rw [List.length_cons]
   omega)
  have hdc := Zqw B d p k r f now E P x hh hd []
  have hsrc : (P.Src == B) = false := beq_eq_false_iff_ne.2 hne
  simp only [ZI, h13, hdc, hsrc, Bool.and_self, Tr.den, Zu, SL, SM]
  exact k2)
 refine (Zc _ _).trans ?_
 simp only [ZI, show (Z3v B d p k r f).Up = true from rfl, show ((Z3v B d p k r f).Low.Z0j == 3) = false from rfl, Bool.and_self, Tr.den, Zu, SL, SM]
 exact k1
theorem Zxs (B : Int) (E : List Int) (hE : E.length ≠ 13) (P : Zm) (e : Int) (he : e ≠ 0) (x : Int) (hh : Z1d E = some (0, x, 0)) (hd : Z18 (Z2W k) 0 E = some (P, e)) :
  ∃ n' c q o i, Z1Q E ⟨Z3v B d p k r f, now⟩ [] = some ⟨⟨n', now⟩, [], c, q, o, i⟩ := by
 refine ⟨Z3v B d p k r f, [], [], [], [], ?_⟩
 obtain ⟨H, hdc⟩ := Zsq B d p k r f now E P e he x hh hd []
 have k1 : ZT ZI (.b1 E ⟨Z3v B d p k r f, now⟩ []) = some ⟨⟨Z3v B d p k r f, now⟩, [], [], [], [], []⟩ := (Zc _ _).trans (by
  have h13 : (((E.length : Nat) : Int) == 13) = false := beq_eq_false_iff_ne.2 (by omega)
  simp only [ZI, h13, hdc, Bool.and_self, Tr.den, Zu, SL, SM])
 refine (Zc _ _).trans ?_
 simp only [ZI, show (Z3v B d p k r f).Up = true from rfl, show ((Z3v B d p k r f).Low.Z0j == 3) = false from rfl, k1, Bool.and_self, Tr.den, Zu, SL, SM]
end
theorem Zqk (n : Zg) (hz : ZlA n) (E : List Int) (now : Int) (ev : List Za) (h : ∃ n' c q o i, Z1Q E ⟨n, now⟩ [] = some ⟨⟨n', now⟩, ev, c, q, o, i⟩) : ∃ n', ZaW n E now = some (n', ev) := by
 obtain ⟨n', c, q, o, i, h⟩ := h
 have h1 : ∃ y, Zb7 ⟨n, now⟩ E [] = some y /\ y.q2 = ev := ⟨_, (Zc _ _).trans (by simp only [Zbg, h, Bool.and_self, Tr.den, Zu, SL, SM]; rfl), rfl⟩
 obtain ⟨y, h1, hy⟩ := h1
 have h2 : ∃ u, ZcD n now E = some u /\ u.q1 = ev := ⟨_, (Zc _ _).trans (by simp only [Zdv, ZdL n hz, h1, Bool.and_self, Tr.den, Zu, SL, SM]; rfl), hy⟩
 obtain ⟨u, h2, hu⟩ := h2
 exact ⟨u.q0, (Zc _ _).trans (by simp only [ZfM, h2, Bool.and_self, Tr.den, Zu, SL, SM]; rw [hu])⟩
theorem Zj1 (k : Int) (hk : K64 k) : Z9k k = some (Z2W k) := (Zc _ _).trans (by
 have h := Z6E k (⟨#[110, 105, 100]⟩ : ByteArray) []
 have h1 := h.1
 simp only [Zd8, Tr.den, Zu]
 rw [Z9j k hk _ _ (by decide) (fun x hx => by cases hx) (by simp), Z9j k hk _ _ (by decide) (fun x hx => by cases hx) (by simp), Z9j k hk _ _ (by decide) (fun x hx => by cases hx) (by simp), Z9j k hk _ _ (by decide) (fun x hx => by cases hx) (by simp)]
 simp only [Option.bind_some, Int.tmod_eq_emod_of_nonneg h1]
 rw [Z1B (by omega) (by omega)]
 rfl)
theorem Zyo {a : Int} (h : Z47 a = true) : a ≠ 0 := fun e => by rw [e] at h; cases h
theorem ZhW (x : ZX) (ha : U16 x.A) (hB : U16 x.B) (hdev : K64 x.Device) (happ : K64 x.App) (hnet : K64 x.Net) (other : Int) (hoth : K64 other) (app : Bool) (b : List Int) (hb : Bytes b) : ZaE x other app b = some true := (Zc _ _).trans (by
 simp only [Z0e, Zok, len0, Tr.den, Zu, Option.bind_some, Bool.not_true, cond_false]
 by_cases hb0 : b = []
 ·rw [decide_eq_true hb0]; rfl
 rw [decide_eq_false hb0]
 by_cases hl' : (b.length : Int) > 11
 ·rw [decide_eq_true hl']; rfl
 rw [decide_eq_false hl']
 by_cases hAB : x.A = x.B
 ·rw [show (x.A == x.B) = true from beq_iff_eq.2 hAB]; rfl
 rw [show (x.A == x.B) = false from beq_eq_false_iff_ne.2 hAB]
 have hl : b.length <= 11 := by omega
 have main : ∀ (hnA : Z47 x.A = true) (hnB : Z47 x.B = true), ZT Z0e (.b2 other app b x (Z3v x.A x.Device x.App x.Net x.Z06 x.Z1U) (Z3v x.B x.Device x.App x.Net x.Z06 x.Z1U) (Z3v x.B x.Device x.App other x.Z06 x.Z1U)) = some true := fun hnA hnB => by
  have hso := Ztn x.A x.Device x.App x.Net x.Z06 x.Z1U ha hdev happ
  have hsz := size_empty (Z3v x.A x.Device x.App x.Net x.Z06 x.Z1U) rfl rfl rfl rfl rfl rfl rfl
  have hszB := size_empty (Z3v x.B x.Device x.App x.Net x.Z06 x.Z1U) rfl rfl rfl rfl rfl rfl rfl
  have hszO := size_empty (Z3v x.B x.Device x.App other x.Z06 x.Z1U) rfl rfl rfl rfl rfl rfl rfl
  have hsend := ZlH _ hso hsz x.B hB app 3 b 1
  rw [Zyq x.A x.Device x.App x.Net x.Z06 x.Z1U hnA x.B hnB app 3 ⟨by decide, by decide⟩ b hb0 hl 1] at hsend
  generalize hP : ZtC x.A x.Device x.App x.Net app x.B 3 b = P at hsend
  have hPr : ZqL P := hP ▸ ZBc _ _ _ _ _ _ _ _ ha hB
  have hPc : checkN P = 0 := hP ▸ ZsQ x.A x.Device x.App x.Net app x.B 3 b hnA hnB ⟨by decide, by decide⟩ hl
  have hPb : Bytes P.Payload := hP ▸ ZtW _ _ _ _ _ _ _ _
  have hPn : P.NID = (Z2W x.Net).NID := by rw [<- hP]; rfl
  have hPi : P.IV = 0 := by rw [<- hP]; rfl
  have hPl : P.Payload.length = b.length + 5 := by rw [<- hP]; show (ZrB app :: Z4p x.Device x.App app x.A x.B b).length = _; rw [List.length_cons, Zcp]
  have hel := ZoP (Z2W x.Net) P
  have hdec := ZkZ (Z2W x.Net) P hPr hPc hPn hPb
  rw [hPi] at hdec
  have hnr := (Zgj hPc).nid
  have hhint : Z1d (Z9I (Z2W x.Net) P) = some (0, P.NID, 0) := by
   rw [show Z9I (Z2W x.Net) P = (P.NID + P.IV % 2 * 128) :: (Z8t (Zla P) (Zsl (Z2W x.Net) P.IV (Z39 (Z2W x.Net) P)) ++ Z39 (Z2W x.Net) P) from rfl, hPi, Zb1 _ (by omega), show (P.NID + 0 % 2 * 128) / 128 = 0 by omega, show (P.NID + 0 % 2 * 128) % 128 = P.NID by omega]
  obtain ⟨n1, hear1⟩ := Zqk _ hszB (Z9I (Z2W x.Net) P) 2 _ (Zus x.Device x.App x.Net x.Z06 x.Z1U 2 x.B (Z9I (Z2W x.Net) P) x.A app 3 b hb hl ha hB hAB (Zyo hnA) (by decide) (by rw [hP]; exact hel) _ hhint (by rw [hP]; exact hdec))
  have hrN := Zj1 x.Net hnet
  have hrO := Zj1 other hoth
  have k4 : ZT Z0e (.b4 other x (outv (Z4x (Z3v x.A x.Device x.App x.Net x.Z06 x.Z1U)) 1 (Z9I (Z2W x.Net) P)) (Z3v x.B x.Device x.App other x.Z06 x.Z1U)) = some true := (Zc _ _).trans (by
   simp only [Z0e, hrN, hrO, Tr.den, Zu, Option.bind_some]
   by_cases hnid : (Z2W other).NID = (Z2W x.Net).NID
   ·rw [show ((Z2W other).NID == (Z2W x.Net).NID) = true from beq_iff_eq.2 hnid]; rfl
   ·rw [show ((Z2W other).NID == (Z2W x.Net).NID) = false from beq_eq_false_iff_ne.2 hnid]
    have hno := Zga (Z2W x.Net) (Z2W other) P 0 hPr hPc hPn hnid
    obtain ⟨n2, hear2⟩ := Zqk _ hszO (Z9I (Z2W x.Net) P) 2 _ (Zxs x.Device x.App other x.Z06 x.Z1U 2 x.B (Z9I (Z2W x.Net) P) (by omega) _ 17 (by decide) _ hhint hno)
    rw [show (outv (Z4x (Z3v x.A x.Device x.App x.Net x.Z06 x.Z1U)) 1 (Z9I (Z2W x.Net) P)).Out = [⟨1, Z9I (Z2W x.Net) P, 0⟩] from rfl]
    simp only [cond_false, List.length_cons, List.length_nil]
    rw [show decide ((0 : Int) <= 0 /\ (0 : Int) < (((0 + 1 : Nat)) : Int)) = true from rfl, show ([(⟨1, Z9I (Z2W x.Net) P, 0⟩ : ZG)])[Int.toNat 0]? = some ⟨1, Z9I (Z2W x.Net) P, 0⟩ from rfl]
    simp (disch := omega) only [hear2, Tr.den, Zu, SL, SM]
    rfl)
  have k3 : ZT Z0e (.b3 other app b x (outv (Z4x (Z3v x.A x.Device x.App x.Net x.Z06 x.Z1U)) 1 (Z9I (Z2W x.Net) P)) (Z3v x.B x.Device x.App x.Net x.Z06 x.Z1U) (Z3v x.B x.Device x.App other x.Z06 x.Z1U)) = some true := (Zc _ _).trans (by
   simp only [Z0e, Tr.den, Zu]
   rw [show (outv (Z4x (Z3v x.A x.Device x.App x.Net x.Z06 x.Z1U)) 1 (Z9I (Z2W x.Net) P)).Out = [⟨1, Z9I (Z2W x.Net) P, 0⟩] from rfl]
   simp only [List.length_cons, List.length_nil]
   rw [show decide ((0 : Int) <= 0 /\ (0 : Int) < (((0 + 1 : Nat)) : Int)) = true from rfl, show ([(⟨1, Z9I (Z2W x.Net) P, 0⟩ : ZG)])[Int.toNat 0]? = some ⟨1, Z9I (Z2W x.Net) P, 0⟩ from rfl]
   simp (disch := omega) only [hear1, okB b (by omega), Z4f, k4, Tr.den, Zu, SL, SM]
   rw [show ([(⟨1, ⟨x.A, x.B, app, 3, ⟨x.A, 0, 0⟩, b⟩, 0, 0⟩ : Za)])[Int.toNat 0]? = some ⟨1, ⟨x.A, x.B, app, 3, ⟨x.A, 0, 0⟩, b⟩, 0, 0⟩ from rfl]
   simp (disch := omega) only [okB b (by omega), Z4f, k4, Tr.den, Zu, SL, SM]
   rfl)
  refine (Zc _ _).trans ?_
  have e1 : (outv (Z4x (Z3v x.A x.Device x.App x.Net x.Z06 x.Z1U)) 1 (Z9I (Z2W x.Net) P)).Out = [⟨1, Z9I (Z2W x.Net) P, 0⟩] := rfl
  simp (disch := omega) only [Z0e, hsend, Z4f, e1, k3, Tr.den, Zu, SL, SM]
  rfl
 have k1 : ZT Z0e (.b1 other app b x) = some true := (Zc _ _).trans (by
  simp only [Z0e, ZhB, Zy2, Tr.den, Zu, Option.bind_some]
  cases hnA : Z47 x.A with
  | false => rfl
  | true =>
   cases hnB : Z47 x.B with
   | false => rfl
   | true => exact main hnA hnB)
 exact k1)
end Go.Proofs.YtefmbgacbhifdaaGreat
