/-
  Numbers, bytes, loops: plain lemmas.
-/
import Derived.Test.YtpikcdlhgiooaaaGreatKUn
import Derived.Laws.BitsAllLaws
import Derived.Test.YtpikcdlhgiooaaaGreatKFa9
namespace Go.Proofs.YtpikcdlhgiooaaaGreat
open Go Go.Proofs.YtpikcdlhgiooaaaGreat.Le
set_option linter.unusedVariables false
set_option linter.unusedSimpArgs false
set_option maxRecDepth 100000

theorem w64_of {n : Int} (h : -9223372036854775808 ≤ n) (h' : n ≤ 9223372036854775807) : w64 n = n := by
  simp only [w64, IntKind.wrap, IntKind.signed, IntKind.bits]
  simp
  omega
theorem w64_succ (i : Nat) (h : i < 4611686018427387904) : w64 ((i : Int) + 1) = ((i + 1 : Nat) : Int) := by
  rw [w64_of (by omega) (by omega)]; simp
theorem wu64 {n : Int} (h : 0 ≤ n) (h' : n < 18446744073709551616) : IntKind.wrap .u64 n = n := by rw [IntKind.wrap_u64]; exact Int.emod_eq_of_lt h h'
theorem wu32 {n : Int} (h : 0 ≤ n) (h' : n < 4294967296) : IntKind.wrap .u32 n = n := by rw [IntKind.wrap_u32]; exact Int.emod_eq_of_lt h h'
theorem wu16 {n : Int} (h : 0 ≤ n) (h' : n < 65536) : IntKind.wrap .u16 n = n := by rw [IntKind.wrap_u16]; exact Int.emod_eq_of_lt h h'
theorem wu8 {n : Int} (h : 0 ≤ n) (h' : n < 256) : IntKind.wrap .u8 n = n := by rw [IntKind.wrap_u8]; exact Int.emod_eq_of_lt h h'
theorem r64 (n : Int) : 0 ≤ IntKind.wrap .u64 n ∧ IntKind.wrap .u64 n < 18446744073709551616 := by rw [IntKind.wrap_u64]; omega
theorem r32 (n : Int) : 0 ≤ IntKind.wrap .u32 n ∧ IntKind.wrap .u32 n < 4294967296 := by rw [IntKind.wrap_u32]; omega
theorem r8 (n : Int) : 0 ≤ IntKind.wrap .u8 n ∧ IntKind.wrap .u8 n < 256 := by rw [IntKind.wrap_u8]; omega
theorem b64 (o : BinOp) (a b : Int) : 0 ≤ bits o .u64 a b ∧ bits o .u64 a b < 18446744073709551616 := r64 _
theorem b32 (o : BinOp) (a b : Int) : 0 ≤ bits o .u32 a b ∧ bits o .u32 a b < 4294967296 := r32 _
theorem b8 (o : BinOp) (a b : Int) : 0 ≤ bits o .u8 a b ∧ bits o .u8 a b < 256 := r8 _
theorem wraps_u64 (n : Int) (h₀ : 0 ≤ n) (h₁ : n < 2 ^ 64) : IntKind.u64.wrap n = n := wu64 h₀ h₁
theorem wraps_u32 (n : Int) (h₀ : 0 ≤ n) (h₁ : n < 2 ^ 32) : IntKind.u32.wrap n = n := wu32 h₀ h₁

theorem or_lo (k : IntKind) (j : Nat) (hj : j ≤ k.bits) (hk : ∀ n : Int, 0 ≤ n → n < 2 ^ j → k.wrap n = n) (i : Nat) (hi : i ≤ j)
    (x y : Int) (hy₀ : 0 ≤ y) (hy : y % 2 ^ i = 0) (hy₁ : y < 2 ^ j) (hx₀ : 0 ≤ x) (hx : x < 2 ^ i) : bits .or k x y = x + y := by
  have hx₁ : x < 2 ^ j := Int.lt_of_lt_of_le hx (by exact_mod_cast Nat.pow_le_pow_right (by decide) hi)
  have h := bits_join k j hj hk i y x hy₀ hy hy₁ hx₀ hx hx₁
  obtain ⟨a, rfl⟩ := Int.eq_ofNat_of_zero_le hx₀
  obtain ⟨b, rfl⟩ := Int.eq_ofNat_of_zero_le hy₀
  rw [(bits_nat k j hj hk b a (by exact_mod_cast hy₁) (by exact_mod_cast hx₁)).2] at h
  rw [(bits_nat k j hj hk a b (by exact_mod_cast hx₁) (by exact_mod_cast hy₁)).2, Nat.or_comm, h, Int.add_comm]

theorem lt_dec {i n : Nat} (h : i < n) : decide (i < n) = true := decide_eq_true h
theorem nlt_dec {i n : Nat} (h : n ≤ i) : decide (i < n) = false := decide_eq_false (by omega)
theorem lim_ge : 1000000000 ≤ lim := by decide
theorem maxLen_ge : 1000000000 ≤ maxLen := by decide
theorem app_ok (a b k : Nat) (h : a + b ≤ 1000000) (hk : k ≤ 1000) : (decide ((a + b) * k ≤ lim) && decide (a + b ≤ maxLen)) = true := by
  have h1 : (a + b) * k ≤ 1000000000 := Nat.le_trans (Nat.mul_le_mul h hk) (by decide)
  exact Bool.and_eq_true_iff.mpr ⟨decide_eq_true (Nat.le_trans h1 lim_ge), decide_eq_true (Nat.le_trans (Nat.le_trans h (by decide)) maxLen_ge)⟩
theorem app1_ok (a k : Nat) (h : a ≤ 1000000) (hk : k ≤ 1000) : (decide (a * k ≤ lim) && decide (a ≤ maxLen)) = true := by
  simpa using app_ok 0 a k (by simpa using h) hk

/-- The standing rules of a walk through a block. -/
theorem SL : (∀ n : Nat, (0 : Int) ≤ (n : Int)) ∧ (∀ n m : Nat, ((n : Int) < (m : Int)) ↔ n < m) ∧ (∀ n : Nat, Int.toNat (n : Int) = n) ∧
    (∀ (α : Type) (l : List α) (i : Nat) (h : i < l.length), l[i]? = some l[i]) ∧ (∀ (α : Type) [BEq α] [ReflBEq α] (a : α), (a == a) = true) ∧
    (∀ a : Bool, (a && true) = a) ∧ (∀ a : Bool, (true && a) = a) ∧ (∀ (α : Type) (a b : List α), (a ++ b).length = a.length + b.length) ∧ (∀ (α : Type) (a : List α), [] ++ a = a) ∧ (∀ n : Nat, 0 + n = n) ∧
    (∀ a b k : Nat, a + b ≤ 1000000 → k ≤ 1000 → (decide ((a + b) * k ≤ lim) && decide (a + b ≤ maxLen)) = true) ∧ (∀ a k : Nat, a ≤ 1000000 → k ≤ 1000 → (decide (a * k ≤ lim) && decide (a ≤ maxLen)) = true) ∧
    (∀ i : Nat, i < 4611686018427387904 → w64 ((i : Int) + 1) = ((i + 1 : Nat) : Int)) ∧ (∀ i n : Nat, i < n → decide (i < n) = true) ∧ (∀ i n : Nat, n ≤ i → decide (i < n) = false) :=
  ⟨Int.natCast_nonneg, @Int.ofNat_lt, Int.toNat_natCast, fun _ _ _ h => List.getElem?_eq_getElem h, fun _ _ _ a => beq_self_eq_true a, Bool.and_true, Bool.true_and, fun _ _ _ => List.length_append, fun _ a => List.nil_append a, Nat.zero_add, app_ok, app1_ok, w64_succ, fun _ _ h => lt_dec h, fun _ _ h => nlt_dec h⟩

theorem SM : (∀ (α β : Type) (a : α) (f : α → Option β), (some a).bind f = f a) ∧ (decide True = true) ∧ (decide False = false) ∧ (∀ (α : Type) (a b : α), cond true a b = a) ∧ (∀ (α : Type) (a b : α), cond false a b = b) ∧
    (∀ p : Prop, (True ∧ p) = p) ∧ (∀ p : Prop, (p ∧ True) = p) ∧ (∀ α : Type, ([] : List α).length = 0) ∧ (∀ (α : Type) (a : α) (l : List α), (a :: l).length = l.length + 1) ∧ ((!true) = false) ∧ ((!false) = true) :=
  ⟨fun _ _ _ _ => rfl, rfl, rfl, fun _ _ _ => rfl, fun _ _ _ => rfl, true_and, and_true, fun _ => rfl, fun _ _ _ => rfl, rfl, rfl⟩
/-- A loop over a list, as a flow has it. -/
theorem loop_list {S R α : Type} (F : S → Int → Option R) (xs : List α) (step : S → α → S) (fin : S → Option R) (Inv : Nat → S → Prop)
    (hstep : ∀ (i : Nat) s (h : i < xs.length), Inv i s → F s i = F (step s xs[i]) ((i + 1 : Nat) : Int) ∧ Inv (i + 1) (step s xs[i]))
    (hfin : ∀ s, Inv xs.length s → F s (xs.length : Int) = fin s) (s : S) (h0 : Inv 0 s) : F s 0 = fin (xs.foldl step s) ∧ Inv xs.length (xs.foldl step s) := by
  have key : ∀ (ys zs : List α) (s : S), xs = ys ++ zs → Inv ys.length s → F s (ys.length : Int) = fin (zs.foldl step s) ∧ Inv xs.length (zs.foldl step s) := by
    intro ys zs
    induction zs generalizing ys with
    | nil =>
      intro s hx hi
      rw [List.append_nil] at hx
      subst hx
      exact ⟨hfin s hi, hi⟩
    | cons z zs ih =>
      intro s hx hi
      have hl : ys.length < xs.length := by rw [hx]; simp
      have hz : xs[ys.length] = z := by simp [hx]
      obtain ⟨h1, h2⟩ := hstep ys.length s hl hi
      rw [hz] at h1 h2
      rw [h1]
      have := ih (ys ++ [z]) (step s z) (by simp [hx]) (by simpa using h2)
      simpa using this
  exact key [] xs s rfl h0

theorem foldl_app {α β : Type} (f : α → List β) (xs : List α) (s : List β) : xs.foldl (fun s x => s ++ f x) s = s ++ xs.flatMap f := by
  induction xs generalizing s with
  | nil => simp
  | cons x xs ih => simp [List.foldl_cons, ih, List.append_assoc]

/-! ## bytes -/
def Bytes (xs : List Int) : Prop := ∀ x ∈ xs, 0 ≤ x ∧ x < 256
theorem Bytes.nil : Bytes [] := fun _ h => by cases h
theorem Bytes.cons {x : Int} {xs : List Int} (h : 0 ≤ x ∧ x < 256) (hx : Bytes xs) : Bytes (x :: xs) := fun y hy => by
  rcases List.mem_cons.1 hy with rfl | hy
  · exact h
  · exact hx y hy
theorem Bytes.app {xs ys : List Int} (hx : Bytes xs) (hy : Bytes ys) : Bytes (xs ++ ys) := fun y h => (List.mem_append.1 h).elim (hx y) (hy y)
theorem Bytes.sub {xs ys : List Int} (hx : Bytes xs) (h : ∀ y ∈ ys, y ∈ xs) : Bytes ys := fun y hy => hx y (h y hy)
theorem Bytes.take {xs : List Int} (hx : Bytes xs) (n : Nat) : Bytes (xs.take n) := hx.sub fun _ h => List.mem_of_mem_take h
theorem Bytes.drop {xs : List Int} (hx : Bytes xs) (n : Nat) : Bytes (xs.drop n) := hx.sub fun _ h => List.mem_of_mem_drop h
theorem Bytes.get {xs : List Int} (hx : Bytes xs) (i : Nat) (h : i < xs.length) : 0 ≤ xs[i] ∧ xs[i] < 256 := hx _ (List.getElem_mem h)
theorem Bytes.flat {α : Type} (f : α → List Int) (l : List α) (h : ∀ x ∈ l, Bytes (f x)) : Bytes (l.flatMap f) := fun y hy => by
  obtain ⟨x, hx, hy⟩ := List.mem_flatMap.1 hy
  exact h x hx y hy

/-- the number of bytes, the least significant first. -/
def val : List Int → Int
  | [] => 0
  | b :: r => b + 256 * val r
theorem val_rg {xs : List Int} (h : Bytes xs) : 0 ≤ val xs ∧ val xs < 256 ^ xs.length := by
  induction xs with
  | nil => simp [val]
  | cons x xs ih =>
    have h1 := ih fun y hy => h y (List.mem_cons_of_mem _ hy)
    have h2 := h x List.mem_cons_self
    simp only [val, List.length_cons]
    rw [Int.pow_succ]
    omega
theorem val_append (xs : List Int) (ys : List Int) : val (xs ++ ys) = val xs + 256 ^ xs.length * val ys := by
  induction xs with
  | nil => simp [val]
  | cons x xs ih =>
    simp only [List.cons_append, val, ih, List.length_cons]
    rw [Int.pow_succ, Int.mul_add, ← Int.mul_assoc, Int.mul_comm 256 (256 ^ xs.length), Int.add_assoc]
theorem pow256_le {n : Nat} (h : n ≤ 8) : (256 : Int) ^ n ≤ 18446744073709551616 :=
  (by decide : ∀ n : Fin 9, (256 : Int) ^ n.1 ≤ 18446744073709551616) ⟨n, by omega⟩
theorem val_64 {xs : List Int} (h : Bytes xs) (hl : xs.length ≤ 8) : 0 ≤ val xs ∧ val xs < 18446744073709551616 := by
  have h1 := val_rg h
  exact ⟨h1.1, Int.lt_of_lt_of_le h1.2 (pow256_le hl)⟩

/-- the bytes of a number. -/
def num : Nat → Int → List Int
  | 0, _ => []
  | n + 1, v => (v % 256) :: num n (v / 256)
theorem num_len (n : Nat) (v : Int) : (num n v).length = n := by
  induction n generalizing v with
  | zero => rfl
  | succ n ih => simp [num, ih]
theorem num_bytes (n : Nat) (v : Int) : Bytes (num n v) := by
  induction n generalizing v with
  | zero => exact Bytes.nil
  | succ n ih => exact Bytes.cons (by omega) (ih _)
theorem num_snoc (n : Nat) (v : Int) : num (n + 1) v = num n v ++ [v / 256 ^ n % 256] := by
  induction n generalizing v with
  | zero => simp [num]
  | succ n ih =>
    have e : num (n + 2) v = (v % 256) :: num (n + 1) (v / 256) := rfl
    rw [e, ih]
    simp only [num, List.cons_append]
    rw [Int.pow_succ, Int.mul_comm, ← Int.ediv_ediv_of_nonneg (by decide)]
theorem num_take (n m : Nat) (v : Int) (h : n ≤ m) : (num m v).take n = num n v := by
  induction n generalizing m v with
  | zero => simp [num]
  | succ n ih =>
    obtain ⟨m, rfl⟩ : ∃ k, m = k + 1 := ⟨m - 1, by omega⟩
    simp [num, ih m _ (by omega)]
theorem num_mod (n : Nat) (v w : Int) (h : v % 256 ^ n = w % 256 ^ n) : num n v = num n w := by
  induction n generalizing v w with
  | zero => rfl
  | succ n ih =>
    simp only [num]
    have p : (0 : Int) < 256 ^ n := by exact_mod_cast Nat.pow_pos (by decide)
    rw [Int.pow_succ] at h
    have e1 : v % 256 = w % 256 := by
      have a := Int.emod_emod_of_dvd v (⟨256 ^ n, Int.mul_comm _ _⟩ : (256 : Int) ∣ 256 ^ n * 256)
      have b := Int.emod_emod_of_dvd w (⟨256 ^ n, Int.mul_comm _ _⟩ : (256 : Int) ∣ 256 ^ n * 256)
      rw [← a, ← b, h]
    have e2 : v / 256 % 256 ^ n = w / 256 % 256 ^ n := by
      have q : ∀ x : Int, x / 256 % 256 ^ n = x % (256 ^ n * 256) / 256 := by
        intro x
        rw [Int.emod_def x, Int.emod_def (x / 256), Int.mul_comm (256 ^ n) 256, Int.mul_assoc, Int.sub_ediv_of_dvd _ ⟨_, rfl⟩, Int.mul_ediv_cancel_left _ (by decide), Int.ediv_ediv_of_nonneg (by decide)]
      rw [q, q, h]
    rw [e1, ih _ _ e2]
theorem val_num (n : Nat) (v : Int) (h0 : 0 ≤ v) (h : v < 256 ^ n) : val (num n v) = v := by
  induction n generalizing v with
  | zero => simp [num, val] at *; omega
  | succ n ih =>
    simp only [num, val]
    rw [Int.pow_succ] at h
    rw [ih (v / 256) (by omega) (Int.ediv_lt_of_lt_mul (by decide) h)]
    omega
end Go.Proofs.YtpikcdlhgiooaaaGreat

/-
  What a node that is alone does in a mesh is what it does by itself.
-/
namespace Go.Proofs.YtpikcdlhgiooaaaGreat
open Go Go.Proofs.YtpikcdlhgiooaaaGreat.Le
set_option linter.unusedVariables false
set_option linter.unusedSimpArgs false
set_option maxRecDepth 100000

theorem b00 : decide ((0 : Int) < ((0 : Nat) : Int)) = false := rfl
theorem v_groups0 : m_r53_sameGroups [] [] = some true := by
  have b1 : flow T_r53_sameGroups (.b1 [] [] 0) = some true := (flow_eq _ _).trans (by simp only [T_r53_sameGroups, DN, SL, SM, List.length_nil, b00, cond_false])
  exact (flow_eq _ _).trans (by simp only [T_r53_sameGroups, DN, SL, SM, List.length_nil, bne_self_eq_false, cond_false, b1])
theorem v_timed0 : m_r53_SameTimed [] [] = some true := by
  have b1 : flow T_r53_SameTimed (.b1 [] [] 0) = some true := (flow_eq _ _).trans (by simp only [T_r53_SameTimed, DN, SL, SM, List.length_nil, b00, cond_false])
  exact (flow_eq _ _).trans (by simp only [T_r53_SameTimed, DN, SL, SM, List.length_nil, bne_self_eq_false, cond_false, b1])
theorem v_trans0 : m_r53_sameTransport ⟨[], []⟩ ⟨[], []⟩ = some true := by
  have b4 : flow T_r53_sameTransport (.b4 0 ⟨[], []⟩ ⟨[], []⟩) = some true := (flow_eq _ _).trans (by simp only [T_r53_sameTransport, DN, SL, SM, List.length_nil, b00, cond_false])
  have b2 : flow T_r53_sameTransport (.b2 0 ⟨[], []⟩ ⟨[], []⟩) = some true := (flow_eq _ _).trans (by simp only [T_r53_sameTransport, DN, SL, SM, List.length_nil, b00, cond_false, b4])
  have b1 : flow T_r53_sameTransport (.b1 ⟨[], []⟩ ⟨[], []⟩) = some true := (flow_eq _ _).trans (by simp only [T_r53_sameTransport, DN, SL, SM, b2])
  exact (flow_eq _ _).trans (by simp only [T_r53_sameTransport, DN, SL, SM, List.length_nil, bne_self_eq_false, cond_false, b1])
theorem v_friend0 : m_r53_sameFriend z_api_Friend z_api_Friend = some true := by
  have hq : z_api_Friend.Queue = [] := rfl
  have hs : z_api_Friend.Subs = [] := rfl
  have b2 : flow T_r53_sameFriend (.b2 0 z_api_Friend z_api_Friend) = some true := (flow_eq _ _).trans (by simp only [T_r53_sameFriend, DN, SL, SM, hq, List.length_nil, b00, cond_false])
  have b1 : flow T_r53_sameFriend (.b1 z_api_Friend z_api_Friend) = some true := (flow_eq _ _).trans (by simp only [T_r53_sameFriend, DN, SL, SM, b2])
  exact (flow_eq _ _).trans (by simp only [T_r53_sameFriend, DN, SL, SM, hq, hs, List.length_nil, bne_self_eq_false, beq_self_eq_true, Bool.not_true, cond_false, v_groups0, Option.bind_some, b1])
theorem v_low0 : m_r53_sameLow z_api_LowPower z_api_LowPower = some true := by
  have hs : z_api_LowPower.Subs = [] := rfl
  exact (flow_eq _ _).trans (by simp only [T_r53_sameLow, DN, SL, SM, hs, beq_self_eq_true, cond_true, v_groups0, Option.bind_some])
theorem v_same (r : Bool) : m_r53_Same (nodeL r) (nodeL r) = some true := by
  have hc : (nodeL r).Cache = [] := rfl
  have hr : (nodeL r).Replays = [] := rfl
  have b4 : flow T_r53_Same (.b4 (nodeL r) (nodeL r)) = some true := (flow_eq _ _).trans (by
    simp only [T_r53_Same, DN, SL, SM, show (nodeL r).Groups = [] from rfl, show (nodeL r).Transport = ⟨[], []⟩ from rfl, show (nodeL r).Friend = z_api_Friend from rfl, show (nodeL r).Low = z_api_LowPower from rfl, show (nodeL r).Out = [] from rfl,
      v_groups0, v_trans0, v_friend0, v_low0, v_timed0, Option.bind_some, cond_true])
  have b3 : flow T_r53_Same (.b3 0 (nodeL r) (nodeL r)) = some true := (flow_eq _ _).trans (by
    simp only [T_r53_Same, DN, SL, SM, hr, List.length_nil, b00, bne_self_eq_false, beq_self_eq_true, Bool.and_self, Bool.not_true, cond_false, b4])
  have b2 : flow T_r53_Same (.b2 0 (nodeL r) (nodeL r)) = some true := (flow_eq _ _).trans (by
    simp only [T_r53_Same, DN, SL, SM, hc, List.length_nil, b00, cond_false, b3])
  have b1 : flow T_r53_Same (.b1 (nodeL r) (nodeL r)) = some true := (flow_eq _ _).trans (by simp only [T_r53_Same, DN, SL, SM, b2])
  exact (flow_eq _ _).trans (by simp only [T_r53_Same, DN, SL, SM, hc, hr, List.length_nil, bne_self_eq_false, cond_false, b1])
theorem v_mTick (r : Bool) (i : Nat) (h : i < 256) : m_mesh_Tick (stM r i) = some (stM r (i + 1)) := by
  have e : (stM r i).Now.toNat = i := Int.toNat_natCast i
  have q : relM (stM r i) = r := rfl
  unfold m_mesh_Tick
  rw [e, q, if_pos ⟨rfl, h⟩]
theorem v_nTick (r : Bool) (i : Nat) (h1 : 1 ≤ i) (h : i ≤ 256) : m_node_Tick (nodeL r) (i : Int) = some (nodeL r, sentL i, []) := by
  unfold m_node_Tick
  rw [if_pos ⟨rfl, by omega, by omega⟩, Int.toNat_natCast]
theorem v_loop (r : Bool) (n : Nat) (hn : n < 256) (hv : m_law54_lives = some true) : ∀ d i : Nat, i + d = n → flow T_law54_MeshKeeps (.b2 (n : Int) ((i + 1 : Nat) : Int) (stM r i) (nodeL r)) = some true := by
  have hw : w64 (n : Int) = (n : Int) := w64_of (by omega) (by omega)
  intro d
  induction d with
  | zero =>
    intro i hi
    obtain rfl : i = n := by omega
    have c : decide (((i + 1 : Nat) : Int) ≤ (i : Int)) = false := decide_eq_false (by omega)
    have hN : (stM r i).Nodes = [nodeL r] := rfl
    have hT : (stM r i).Now = (i : Int) := rfl
    have k : decide ((0 : Int) ≤ 0 ∧ (0 : Int) < (([nodeL r].length : Nat) : Int)) = true := rfl
    have g : [nodeL r][Int.toNat 0]? = some (nodeL r) := rfl
    exact (flow_eq _ _).trans (by simp only [T_law54_MeshKeeps, DN, hw, c, cond_false, hN, k, cond_true, g, Option.bind_some, v_same, hT, beq_self_eq_true, hv])
  | succ d ih =>
    intro i hi
    have c : decide (((i + 1 : Nat) : Int) ≤ (n : Int)) = true := decide_eq_true (by omega)
    refine (flow_eq _ _).trans ?_
    simp only [T_law54_MeshKeeps, DN, hw, c, cond_true, v_mTick r i (by omega), v_nTick r (i + 1) (by omega) (by omega), Option.bind_some, w64_succ (i + 1) (by omega)]
    exact ih (i + 1) (by omega)
theorem law_MeshKeeps (r : Bool) (t : Int) (h0 : 0 ≤ t) (h1 : t < 256) (hv : m_law54_lives = some true) : m_law54_MeshKeeps r t = some true := by
  obtain ⟨n, rfl⟩ := Int.eq_ofNat_of_zero_le h0
  have l := v_loop r n (by omega) hv n 0 (by omega)
  have e : m_law54_begin (plL r) = some (stM r 0, stM r 0, 0, true) := rfl
  have p : m_law54_Plan_nodes (plL r) = some [nodeL r] := rfl
  have k : decide ((0 : Int) ≤ 0 ∧ (0 : Int) < (([nodeL r].length : Nat) : Int)) = true := rfl
  have g : [nodeL r][Int.toNat 0]? = some (nodeL r) := rfl
  have b1 : flow T_law54_MeshKeeps (.b1 (n : Int) (plL r) (stM r 0)) = some true := (flow_eq _ _).trans (by
    simp only [T_law54_MeshKeeps, DN, p, Option.bind_some, k, cond_true, g]
    exact l)
  refine (flow_eq _ _).trans ?_
  simp only [T_law54_MeshKeeps, DN, show (⟨[r], [], [], []⟩ : wirelesslaw54_Plan) = plL r from rfl, e, Option.bind_some, Bool.not_true, cond_false, bne_self_eq_false, Bool.and_self, cond_true]
  exact b1
end Go.Proofs.YtpikcdlhgiooaaaGreat

