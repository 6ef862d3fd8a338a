/-
  A part of the proof.
-/
import Derived.Test.YtefmbgacbhifdaaGreatQa
import Derived.Test.YtefmbgacbhifdaaGreatF2
namespace Go.Proofs.YtefmbgacbhifdaaGreat
open Go Go.Proofs.YtefmbgacbhifdaaGreat.Le
set_option maxRecDepth 100000
theorem via {α : Type} {a b : α} (m : α) (h1 : a = m) (h2 : b = m) : a = b := h1.trans h2.symm
theorem and32 (x : Int) (h : 0 ≤ x) (h' : x < 18446744073709551616) : bits .and .u64 x (IntKind.wrap .u64 ((IntKind.wrap .u64 ((1 : Int) * 2 ^ (min (Int.toNat 32) (IntKind.bits .u64)))) - (1 : Int))) = x % 4294967296 := by
  have := bits_mask .u64 64 (by decide) wraps_u64 32 (by decide) x h h'
  exact this
theorem Zb1 (x : Int) (h : 0 ≤ x) (h' : x < 18446744073709551616) : Z1H x 32 = some (x % 4294967296) := (Z4 _ _).trans (by
  simp only [Z6c, Tr.den, flowJ]
  rw [show decide ((32 : Int) ≤ 0) = false from rfl, show decide ((32 : Int) ≥ 64) = false from rfl, show decide ((0 : Int) ≤ 32) = true from rfl]
  simp only [cond_false, cond_true]
  rw [and32 x h h'])
theorem or0 (x : Int) (h : 0 ≤ x) (h' : x < 18446744073709551616) : bits .or .u64 x 0 = x := by
  obtain ⟨a, rfl⟩ := Int.eq_ofNat_of_zero_le h
  have := (bits_nat .u64 64 (by decide) wraps_u64 a 0 (show a < 18446744073709551616 by omega) (by decide)).2
  rw [Nat.or_zero] at this
  exact this
def rotl (k : Int) (p q : Nat) : Int := bits .or .u64 (IntKind.wrap .u64 (k * 2 ^ p)) (Int.fdiv k (2 ^ q))
theorem rotl0 (k : Int) (h : 0 ≤ k) (h' : k < 18446744073709551616) : rotl k 0 64 = k := by
  unfold rotl
  rw [Int.pow_zero, Int.mul_one, wu64 h h', Int.fdiv_eq_ediv_of_nonneg _ (by decide), show (2 : Int) ^ 64 = 18446744073709551616 from rfl, Int.ediv_eq_zero_of_lt h h', or0 k h h']
theorem ZyK (k : Int) (h : 0 ≤ k) (h' : k < 18446744073709551616) (i : Int) (h0 : 0 ≤ i) (h8 : i < 8) :
    ∃ lo, (0 ≤ lo ∧ lo < 4294967296) ∧ Z9r k i = some lo ∧ ∃ x, ZY k (Int.tmod (w64 ((11 : Int) * (Int.tmod i (64 : Int)))) (64 : Int)) = some x ∧ ∃ y, Z1H x 32 = some y ∧ IntKind.wrap .u32 y = lo := by
  have key : ∀ x, 0 ≤ x → x < 18446744073709551616 → flow Z9a (.b1 x) = some (x % 4294967296) := fun x hx hx' => (Z4 _ _).trans (by
    simp only [Z9a, Tr.den, flowJ]
    rw [Int.tmod_eq_emod_of_nonneg hx, wu32 (by omega) (by omega)])
  have hi : i = 0 ∨ i = 1 ∨ i = 2 ∨ i = 3 ∨ i = 4 ∨ i = 5 ∨ i = 6 ∨ i = 7 := by omega
  have low : ∀ x, 0 ≤ x → x < 18446744073709551616 → ∃ y, Z1H x 32 = some y ∧ IntKind.wrap .u32 y = x % 4294967296 := fun x hx hx' => ⟨_, Zb1 x hx hx', wu32 (by omega) (by omega)⟩
  have fin : ∀ p q : Nat, ∀ n : Int, ZY k n = some (rotl k p q) → Z9r k i = flow Z9a (.b1 (rotl k p q)) → Int.tmod (w64 ((11 : Int) * (Int.tmod i (64 : Int)))) (64 : Int) = n →
      ∃ lo, (0 ≤ lo ∧ lo < 4294967296) ∧ Z9r k i = some lo ∧ ∃ x, ZY k (Int.tmod (w64 ((11 : Int) * (Int.tmod i (64 : Int)))) (64 : Int)) = some x ∧ ∃ y, Z1H x 32 = some y ∧ IntKind.wrap .u32 y = lo := fun p q n h1 h2 h3 => by
    have hb : 0 ≤ rotl k p q ∧ rotl k p q < 18446744073709551616 := b64 _ _ _
    obtain ⟨y, hy, hy'⟩ := low _ hb.1 hb.2
    exact ⟨rotl k p q % 4294967296, by omega, by rw [h2, key _ hb.1 hb.2], _, by rw [h3]; exact h1, y, hy, hy'⟩
  rcases hi with rfl | rfl | rfl | rfl | rfl | rfl | rfl | rfl
  · refine fin 0 64 0 ((Z4 _ _).trans rfl) ?_ rfl
    rw [rotl0 k h h']
    exact (Z4 _ _).trans rfl
  · exact fin 11 53 11 ((Z4 _ _).trans rfl) ((Z4 _ _).trans rfl) rfl
  · exact fin 22 42 22 ((Z4 _ _).trans rfl) ((Z4 _ _).trans rfl) rfl
  · exact fin 33 31 33 ((Z4 _ _).trans rfl) ((Z4 _ _).trans rfl) rfl
  · exact fin 44 20 44 ((Z4 _ _).trans rfl) ((Z4 _ _).trans rfl) rfl
  · exact fin 55 9 55 ((Z4 _ _).trans rfl) ((Z4 _ _).trans rfl) rfl
  · exact fin 2 62 2 ((Z4 _ _).trans rfl) ((Z4 _ _).trans rfl) rfl
  · exact fin 13 51 13 ((Z4 _ _).trans rfl) ((Z4 _ _).trans rfl) rfl
theorem turn7 (x : Int) : ZA x 7 = Z2m x 7 := by
  rw [show ZA x 7 = _ from Z4 _ _, show Z2m x 7 = _ from Z4 _ _]
  rfl
theorem Zzn (x : Int) : ZA x 16 = Z2m x 16 := by
  rw [show ZA x 16 = _ from Z4 _ _, show Z2m x 16 = _ from Z4 _ _]
  rfl
theorem ZxV (k : Int) (h : 0 ≤ k) (h' : k < 18446744073709551616) (i : Int) (h0 : 0 ≤ i) (h8 : i < 8) (a : Int) : Zb7 k i a = Z3t k i a := by
  obtain ⟨lo, hlo, h1, x, h2, y, h3, h4⟩ := ZyK k h h' i h0 h8
  refine via ((Z2m (IntKind.wrap .u32 (a + lo)) 7).bind fun x2 => (Z2m lo 16).bind fun x3 => some (bits .xor .u32 (IntKind.wrap .u32 (x2 * (2654435761 : Int))) x3)) ((Z4 _ _).trans ?_) ((Z4 _ _).trans ?_)
  · simp only [ZbE, Tr.den, flowJ, h1, Option.bind_some]
    rfl
  · simp only [Z55, Tr.den, flowJ, h2, h3, h4, Option.bind_some, turn7, Zzn]
    rfl
theorem Zyi (k : Int) (h : 0 ≤ k) (h' : k < 18446744073709551616) : ∀ (n : Nat) (i l r : Int), 0 ≤ i → 8 - i ≤ n → 0 ≤ l → l < 4294967296 → 0 ≤ r → r < 4294967296 → flow Z5R (.b1 k l r i) = flow ZN (.b1 k i ⟨l, r⟩) := by
  have fin : ∀ i l r : Int, ¬ i < 8 → 0 ≤ l → l < 4294967296 → 0 ≤ r → r < 4294967296 → flow Z5R (.b1 k l r i) = flow ZN (.b1 k i ⟨l, r⟩) := fun i l r hi hl hl' hr hr' => by
    refine via (some (l * 4294967296 + r)) ((Z4 _ _).trans ?_) ((Z4 _ _).trans ?_)
    · simp only [Z5R, Tr.den, flowJ]
      rw [decide_eq_false hi, wu64 (n := l) (by omega) (by omega), wu64 (n := r) (by omega) (by omega), wu64 (n := l * 4294967296) (by omega) (by omega), wu64 (by omega) (by omega)]
      rfl
    · simp only [ZN, Tr.den, flowJ]
      rw [decide_eq_false hi]
      simp only [cond_false]
      rw [show Z0O ⟨l, r⟩ = some (l * 4294967296 + r) from (Z4 _ _).trans (by
        simp only [Z0U, Tr.den, flowJ]
        rw [wu64 (n := l) (by omega) (by omega), wu64 (n := r) (by omega) (by omega), show (2 : Int) ^ (32 : Nat) = 4294967296 from rfl, wu64 (n := l * 4294967296) (by omega) (by omega)]
        rw [bits_join .u64 64 (by decide) wraps_u64 32 (l * 4294967296) r (by omega) (by omega) (by omega) hr (by omega) (by omega)])]
      rfl
  intro n
  induction n with
  | zero => intro i l r h0 h8 hl hl' hr hr'; exact fin i l r (by omega) hl hl' hr hr'
  | succ n ih =>
    intro i l r h0 h8 hl hl' hr hr'
    by_cases hi : i < 8
    · refine via ((Z3t k i r).bind fun x => flow ZN (.b1 k (w64 (i + 1)) ⟨r, bits .xor .u32 l x⟩)) ((Z4 _ _).trans ?_) ((Z4 _ _).trans ?_)
      · simp only [Z5R, Tr.den, flowJ]
        rw [decide_eq_true hi, ZxV k h h' i h0 hi]
        simp only [cond_true]
        congr 1
        funext x
        have hx := b32 .xor l x
        rw [Z0s (by omega) (by omega)]
        exact ih (i + 1) r (bits .xor .u32 l x) (by omega) (by omega) hr hr' hx.1 hx.2
      · simp only [ZN, Tr.den, flowJ]
        rw [decide_eq_true hi]
        rfl
    · exact fin i l r hi hl hl' hr hr'
theorem e_Mix (k x : Int) (h : 0 ≤ k) (h' : k < 18446744073709551616) (hx : 0 ≤ x) (hx' : x < 18446744073709551616) : Z5U k x = Z0u k x := by
  refine via (flow ZN (.b1 k 0 ⟨x / 4294967296, x % 4294967296⟩)) ((Z4 _ _).trans ?_) ((Z4 _ _).trans ?_)
  · simp only [Z5R, Tr.den, flowJ]
    rw [Int.tdiv_eq_ediv_of_nonneg hx, Int.tmod_eq_emod_of_nonneg hx, wu64 (n := x / 4294967296) (by omega) (by omega), wu32 (n := x / 4294967296) (by omega) (by omega), wu32 (n := x % 4294967296) (by omega) (by omega)]
    exact Zyi k h h' 8 0 _ _ (by omega) (by omega) (by omega) (by omega) (by omega) (by omega)
  · simp only [ZN, Tr.den, flowJ]
    rw [show Z5a x = some ⟨x / 4294967296, x % 4294967296⟩ from (Z4 _ _).trans (by
      simp only [Z54, Tr.den, flowJ, Zb1 x hx hx', Option.bind_some]
      rw [Int.fdiv_eq_ediv_of_nonneg _ (by decide), show (2 : Int) ^ (32 : Nat) = 4294967296 from rfl, wu32 (n := x / 4294967296) (by omega) (by omega), wu32 (n := x % 4294967296) (by omega) (by omega)])]
    rfl
noncomputable def mixv (k x : Int) : Int := (Z0u k x).getD 0
theorem v_Mix (k x : Int) : Z0u k x = some (mixv k x) := by
  obtain ⟨r, hr⟩ := t_Mix k x
  rw [mixv, hr]
  rfl
theorem Zwc (k : Int) : ∀ (n : Nat) (i : Int) (h : ZR) (r : Int), 0 ≤ i → 8 - i ≤ n → flow ZN (.b1 k i h) = some r → 0 ≤ r ∧ r < 18446744073709551616 := by
  have fin : ∀ (i : Int) (h : ZR) (r : Int), ¬ i < 8 → flow ZN (.b1 k i h) = some r → 0 ≤ r ∧ r < 18446744073709551616 := fun i h r hi hr => by
    rw [Z4] at hr
    simp only [ZN, Tr.den, flowJ] at hr
    rw [decide_eq_false hi, show Z0O h = _ from Z4 _ _] at hr
    simp only [Z0U, Tr.den, flowJ, cond_false, Option.bind_some, Option.some.injEq] at hr
    rw [← hr]
    exact b64 _ _ _
  intro n
  induction n with
  | zero => intro i h r h0 h8 hr; exact fin i h r (by omega) hr
  | succ n ih =>
    intro i h r h0 h8 hr
    by_cases hi : i < 8
    · rw [Z4] at hr
      simp only [ZN, Tr.den, flowJ] at hr
      rw [decide_eq_true hi, Z0s (by omega) (by omega)] at hr
      simp only [cond_true] at hr
      obtain ⟨x, _, hx⟩ := Option.bind_eq_some_iff.1 hr
      exact ih _ _ _ (by omega) (by omega) hx
    · exact fin i h r hi hr
theorem Zlx (k x : Int) : 0 ≤ mixv k x ∧ mixv k x < 18446744073709551616 := by
  have h := v_Mix k x
  rw [show Z0u k x = _ from Z4 _ _] at h
  simp only [ZN, Tr.den, flowJ] at h
  obtain ⟨y, _, hy⟩ := Option.bind_eq_some_iff.1 h
  exact Zwc k 8 0 y _ (by omega) (by omega) hy
def K64 (k : Int) : Prop := 0 ≤ k ∧ k < 18446744073709551616
theorem Zdg (k x : Int) (h : K64 k) (hx : K64 x) : Z5U k x = some (mixv k x) := (e_Mix k x h.1 h.2 hx.1 hx.2).trans (v_Mix k x)
end Go.Proofs.YtefmbgacbhifdaaGreat
namespace Go.Proofs.YtefmbgacbhifdaaGreat
open Go Go.Proofs.YtefmbgacbhifdaaGreat.Le
set_option maxRecDepth 100000
theorem Z5h {R α β : Type} (F : List β → Int → Option R) (xs : List α) (f : α → List β) (fin : List β → Option R) (B : Nat)
    (hstep : ∀ (i : Nat) s (h : i < xs.length), s.length + (f xs[i]).length ≤ B → F s i = F (s ++ f xs[i]) ((i + 1 : Nat) : Int))
    (hfin : ∀ s, F s (xs.length : Int) = fin s) (s : List β) (h0 : s.length + (xs.flatMap f).length ≤ B) : F s 0 = fin (s ++ xs.flatMap f) := by
  have key := Z5V F xs (fun s x => s ++ f x) fin (fun i s => s.length + ((xs.drop i).flatMap f).length ≤ B)
    (fun i s h hi => by
      simp only [List.drop_eq_getElem_cons h, List.flatMap_cons, List.length_append] at hi
      exact ⟨hstep i s h (by omega), by simp only [List.length_append]; omega⟩)
    (fun s _ => hfin s) s (by simpa using h0)
  rw [key.1, Zu5]
theorem Zfw (ls : List (List Int)) (h : ls.flatten.length ≤ 100000) (hl : ls.length ≤ 100000) : Zy ls = some ls.flatten := (Z4 _ _).trans (by
  simp only [Z2t, Tr.den, flowJ, SL, SM]
  have := Z5h (fun s i => flow Z2t (.b1 s ls ls.length i)) ls id some 100000 (fun i s hi hs => (Z4 _ _).trans (by
      simp only [id] at hs
      simp (disch := omega) only [Z2t, hi, id, Tr.den, flowJ, SL, SM]))
    (fun s => (Z4 _ _).trans (by simp only [Z2t, Int.lt_irrefl, Tr.den, flowJ, SL, SM])) [] (by simpa [List.flatMap_id] using h)
  simpa [List.flatMap_id] using this)
theorem ZtB (n : Int) (h : 1 ≤ n) (h' : n ≤ 8) : Z4g n = some true := (Z4 _ _).trans (by
  simp only [Z6C, Tr.den, flowJ, decide_eq_true (show n ≥ 1 from h), decide_eq_true h', cond_true])
theorem pow8 (j : Nat) : (2 : Int) ^ (8 * j) = 256 ^ j := by rw [Int.pow_mul]; rfl
theorem sh8 (v : Int) (j : Nat) (hj : j ≤ 8) : Int.fdiv v (2 ^ (min (Int.toNat (w64 ((8 : Int) * (j : Int)))) (IntKind.bits .u64))) = v / 256 ^ j := by
  rw [Z0s (by omega) (by omega), show Int.toNat (8 * (j : Int)) = 8 * j by omega, show min (8 * j) (IntKind.bits .u64) = 8 * j from Nat.min_eq_left (by show 8 * j ≤ 64; omega), pow8, Int.fdiv_eq_ediv_of_nonneg _ (Int.le_of_lt (by exact_mod_cast Nat.pow_pos (by decide)))]
theorem put3 (fs : List Zf) (s : List Int) (n : Int) (i m : Nat) (x : Zf) (hm : m ≤ 8) (hs : s.length ≤ 1000) (hi : i ≤ 1000) : ∀ (d j : Nat), j + d = m →
    flow Z0o (.b3 (s ++ num j x.Value) fs n i m j x) = flow Z0o (.b1 (s ++ num m x.Value) fs n ((i + 1 : Nat) : Int)) := by
  intro d
  induction d with
  | zero =>
    intro j hj
    obtain rfl : j = m := by omega
    refine (Z4 _ _).trans ?_
    simp (disch := omega) only [Z0o, Int.lt_irrefl, Tr.den, flowJ, SL, SM]
  | succ d ih =>
    intro j hj
    rw [← ih (j + 1) (by omega), ZqR, ← List.append_assoc]
    refine (Z4 _ _).trans ?_
    have hjm : j < m := by omega
    have h0 : decide (0 ≤ w64 (8 * (j : Int))) = true := decide_eq_true (by rw [Z0s (by omega) (by omega)]; omega)
    have hl := ZH j x.Value
    simp (disch := omega) only [Z0o, hjm, h0, sh8, IntKind.wrap_u8, hl, Tr.den, flowJ, SL, SM]
def Z3A (f : Zf) : List Int := num f.Size.toNat f.Value
theorem v_Put (fs : List Zf) (hf : ∀ f ∈ fs, 1 ≤ f.Size ∧ f.Size ≤ 8 ∧ 0 ≤ f.Value ∧ f.Value < 256 ^ f.Size.toNat) (hl : (fs.flatMap Z3A).length ≤ 1000) (hn : fs.length ≤ 1000) :
    Z1I fs = some (fs.flatMap Z3A, 0) := (Z4 _ _).trans (by
  simp only [Z0o, Tr.den, flowJ, SL, SM]
  have := Z5h (fun s i => flow Z0o (.b1 s fs fs.length i)) fs Z3A (fun s => some (s, 0)) 1000 (fun i s hi hs => (Z4 _ _).trans (by
      obtain ⟨h1, h8, h0, hv⟩ := hf fs[i] (List.getElem_mem hi)
      simp (disch := omega) only [Z0o, hi, ZtB _ h1 h8, Tr.den, flowJ, SL, SM]
      have key : flow Z0o (.b2 s fs fs.length i fs[i]) = flow Z0o (.b1 (s ++ Z3A fs[i]) fs fs.length ((i + 1 : Nat) : Int)) := by
        refine (Z4 _ _).trans ?_
        simp (disch := omega) only [Z0o, Tr.den, flowJ, SL, SM]
        have := put3 fs s fs.length i fs[i].Size.toNat fs[i] (by omega) (by omega) (by omega) fs[i].Size.toNat 0 (by omega)
        simp only [num, List.append_nil] at this
        rw [show ((fs[i].Size.toNat : Nat) : Int) = fs[i].Size by omega] at this
        exact this
      by_cases hs8 : fs[i].Size < 8
      · have e := sh8 fs[i].Value fs[i].Size.toNat (by omega)
        rw [show ((fs[i].Size.toNat : Nat) : Int) = fs[i].Size by omega, Int.ediv_eq_zero_of_lt h0 hv] at e
        rw [e, decide_eq_true hs8, show decide (0 ≤ w64 (8 * fs[i].Size)) = true from decide_eq_true (by rw [Z0s (by omega) (by omega)]; omega)]
        exact key
      · rw [decide_eq_false hs8]
        exact key))
    (fun s => (Z4 _ _).trans (by simp only [Z0o, Int.lt_irrefl, Tr.den, flowJ, SL, SM])) [] (by simpa using hl)
  simpa using this)
theorem ZbM {α : Type} (f : α → List Int) (c : Nat) (xs : List α) (h : ∀ x ∈ xs, (f x).length = c) : (xs.flatMap f).length = c * xs.length := by
  induction xs with
  | nil => simp
  | cons x xs ih =>
    rw [List.flatMap_cons, List.length_append, h x List.mem_cons_self, ih fun y hy => h y (List.mem_cons_of_mem _ hy), List.length_cons, Nat.mul_succ]
    omega
theorem ZuR (xs : List Int) (hx : ∀ x ∈ xs, K64 x) (hl : xs.length ≤ 100) : Z2K xs = some (xs.flatMap (num 8)) := (Z4 _ _).trans (by
  simp only [Z3R, Tr.den, flowJ, SL, SM]
  have := Z5h (fun s i => flow Z3R (.b1 s xs xs.length i)) xs (fun x => [(⟨8, x⟩ : Zf)]) (fun s => (Z1I s).bind fun r => some r.1) 1000 (fun i s hi hs => (Z4 _ _).trans (by
      simp only [List.length_cons, List.length_nil] at hs
      simp (disch := omega) only [Z3R, hi, Tr.den, flowJ, SL, SM]))
    (fun s => (Z4 _ _).trans (by simp only [Z3R, Int.lt_irrefl, Tr.den, flowJ, SL, SM]; rfl)) [] (by
      rw [show (xs.flatMap fun x => [(⟨8, x⟩ : Zf)]) = xs.map fun x => (⟨8, x⟩ : Zf) from (List.map_eq_flatMap).symm]; simp; omega)
  refine this.trans ?_
  rw [List.nil_append, show (xs.flatMap fun x => [(⟨8, x⟩ : Zf)]) = xs.map fun x => (⟨8, x⟩ : Zf) from (List.map_eq_flatMap).symm]
  have e : (xs.map fun x => (⟨8, x⟩ : Zf)).flatMap Z3A = xs.flatMap (num 8) := by rw [List.flatMap_map]; rfl
  rw [v_Put _ (fun f hf => by
    obtain ⟨x, hx', rfl⟩ := List.mem_map.1 hf
    exact ⟨show (1 : Int) ≤ 8 by decide, show (8 : Int) ≤ 8 by decide, (hx x hx').1, (hx x hx').2⟩) (by rw [e, ZbM _ 8 _ fun x _ => ZH 8 x]; omega) (by simp; omega), e]
  rfl)
theorem Zzf (m : Nat) (hm : m ≤ 100) (v : Int) (h : K64 v) : ∀ (d j : Nat), j + d = m → flow Z7n (.b1 m (v / 256 ^ j) (num j v) j) = some ⟨num m v⟩ := by
  intro d
  induction d with
  | zero =>
    intro j hj
    obtain rfl : j = m := by omega
    refine (Z4 _ _).trans ?_
    simp (disch := omega) only [Z7n, Int.lt_irrefl, Tr.den, flowJ, SL, SM]
  | succ d ih =>
    intro j hj
    have p : (0 : Int) < 256 ^ j := by exact_mod_cast Nat.pow_pos (by decide)
    have q : 0 ≤ v / 256 ^ j := Int.ediv_nonneg h.1 (Int.le_of_lt p)
    have q' : v / 256 ^ j < 18446744073709551616 := Int.lt_of_le_of_lt (Int.ediv_le_self _ h.1) h.2
    have hjm : j < m := by omega
    have hl := ZH j v
    rw [← ih (j + 1) (by omega), ZqR]
    refine (Z4 _ _).trans ?_
    simp (disch := omega) only [Z7n, hjm, hl, Int.tmod_eq_emod_of_nonneg q, Int.tdiv_eq_ediv_of_nonneg q, Tr.den, flowJ, SL, SM]
    rw [wu8 (by omega) (by omega), wu64 (by omega) (by omega), Int.ediv_ediv_of_nonneg (by omega), Int.pow_succ]
theorem v_Num (m : Nat) (hm : m ≤ 100) (v : Int) (h : K64 v) : ZG m v = some ⟨num m v⟩ := (Z4 _ _).trans (by
  simp only [Z7n, Tr.den, flowJ, SL, SM]
  have := Zzf m hm v h m 0 (by omega)
  simpa [num] using this)
theorem ZwD (xs : List Int) (hb : Bytes xs) (hl : xs.length ≤ 8) : ∀ n : Nat, n ≤ xs.length → flow Z3S (.b1 xs (val (xs.drop n)) ((n : Int) - 1)) = some (val xs) := by
  intro n
  induction n with
  | zero =>
    intro _
    refine (Z4 _ _).trans ?_
    simp only [Z3S, Tr.den, flowJ]
    rw [show decide (((0 : Nat) : Int) - 1 ≥ 0) = false from rfl]
    simp
  | succ n ih =>
    intro hn
    have hd : val (xs.drop n) = xs[n] + 256 * val (xs.drop (n + 1)) := by rw [List.drop_eq_getElem_cons (show n < xs.length by omega)]; rfl
    have h1 := ZnO (hb.drop n) (by rw [List.length_drop]; omega)
    have h2 := ZnO (hb.drop (n + 1)) (by rw [List.length_drop]; omega)
    have h3 := hb.get n (by omega)
    refine (Z4 _ _).trans ?_
    simp only [Z3S, Tr.den, flowJ]
    rw [show ((n + 1 : Nat) : Int) - 1 = (n : Int) by omega, show decide ((n : Int) ≥ 0) = true from decide_eq_true (by omega), show decide (0 ≤ (n : Int) ∧ (n : Int) < (xs.length : Int)) = true from decide_eq_true (by omega)]
    simp only [cond_true, Int.toNat_natCast, List.getElem?_eq_getElem (show n < xs.length by omega), Option.bind_some]
    rw [wu64 (n := val (xs.drop (n + 1)) * 256) (by omega) (by omega), wu64 (n := xs[n]) (by omega) (by omega), wu64 (by omega) (by omega), Z0s (by omega) (by omega), show val (xs.drop (n + 1)) * 256 + xs[n] = val (xs.drop n) by omega]
    exact ih (by omega)
theorem Zv1 (xs : List Int) (hb : Bytes xs) (hl : xs.length ≤ 8) : Z82 xs = some (val xs) := (Z4 _ _).trans (by
  simp only [Z3S, Tr.den, flowJ]
  have := ZwD xs hb hl xs.length (Nat.le_refl _)
  rw [List.drop_of_length_le (Nat.le_refl _)] at this
  rw [Z0s (by omega) (by omega)]
  exact this)
def grpv (xs : List Int) (g : Nat) : Int := val ((xs.drop (8 * g)).take 8)
theorem Zwz (ys : List Int) (hb : Bytes ys) (hl : ys.length ≤ 8) : ∀ m : Nat, m ≤ ys.length → grpN ys m = val (ys.take m) := by
  intro m
  induction m with
  | zero => intro _; simp [grpN, val]
  | succ m ih =>
    intro hm
    have hx := hb.get m (by omega)
    have hv := Zuw (hb.take m)
    have hv2 := ZnO (hb.take (m + 1)) (by rw [List.length_take]; omega)
    have e : val (ys.take (m + 1)) = val (ys.take m) + 256 ^ m * ys[m] := by
      rw [List.take_add_one, List.getElem?_eq_getElem (show m < ys.length by omega), val_append]
      simp [val, Nat.min_eq_left (show m ≤ ys.length by omega)]
    rw [List.length_take, Nat.min_eq_left (by omega)] at hv
    rw [e] at hv2
    have hnn : 0 ≤ 256 ^ m * ys[m] := Int.mul_nonneg (Int.le_of_lt (by exact_mod_cast Nat.pow_pos (by decide))) hx.1
    rw [e, grpN, ih (by omega), List.getElem?_eq_getElem (show m < ys.length by omega), Option.getD_some, pow8, Int.mul_comm ys[m], wu64 hnn (by omega)]
    refine or_lo .u64 64 (by decide) wraps_u64 (8 * m) (by omega) _ _ hnn ?_ (by show _ < (18446744073709551616 : Int); omega) hv.1 ?_
    · rw [pow8]; exact Int.mul_emod_right _ _
    · rw [pow8]; exact hv.2
theorem Zvd (xs : List Int) (hb : Bytes xs) (g : Nat) : grpAt xs g = grpv xs g := by
  unfold grpAt grpv
  rw [Zwz _ ((hb.drop _).take _) (by rw [List.length_take]; omega) _ (Nat.le_refl _), List.take_of_length_le (Nat.le_refl _)]
noncomputable def tagR (k : Int) (xs : List Int) (m g : Nat) (s : Int) : Int := (List.range' g m).foldl (fun s g => mixv k (bits .xor .u64 s (grpv xs g))) s
noncomputable def tagv (k : Int) (xs : List Int) : Int := tagR k xs (gN xs) 0 (mixv k xs.length)
theorem Zy1 (k : Int) (xs : List Int) : ∀ m g s, K64 s → K64 (tagR k xs m g s) := by
  intro m
  induction m with
  | zero => intro g s h; exact h
  | succ m ih =>
    intro g s h
    rw [tagR, List.range'_succ]
    exact ih (g + 1) _ (Zlx _ _)
theorem Zqa (k : Int) (xs : List Int) : K64 (tagv k xs) := Zy1 _ _ _ _ _ (Zlx _ _)
theorem v_Tag (k : Int) (xs : List Int) (hb : Bytes xs) (hl : xs.length ≤ 100000) : Z9m k xs = some (tagv k xs) := by
  have key : ∀ (l : List Nat) (s : Int), l.foldlM (fun s g => Z0u k (bits .xor .u64 s (grpAt xs g))) s = some (l.foldl (fun s g => mixv k (bits .xor .u64 s (grpv xs g))) s) := by
    intro l
    induction l with
    | nil => intro s; rfl
    | cons g l ih =>
      intro s
      rw [List.foldlM_cons, v_Mix, Zvd xs hb]
      exact ih _
  unfold Z9m tagF tagv tagR
  rw [if_pos (by omega), v_Mix, Option.bind_some, key, List.range_eq_range']
theorem Zsk (k : Int) (hk : K64 k) (xs : List Int) (hb : Bytes xs) (hl : xs.length ≤ 100000) : ∀ (m g : Nat) (s : Int), m + g = gN xs → flow Z79 (.b1 k xs s ((8 * g : Nat) : Int)) = some (tagR k xs m g s) := by
  intro m
  induction m with
  | zero =>
    intro g s hg
    unfold gN at hg
    refine (Z4 _ _).trans ?_
    simp (disch := omega) only [Z79, Tr.den, flowJ, SL, SM]
    rfl
  | succ m ih =>
    intro g s hg
    have hg' := hg
    unfold gN at hg
    have hlt : 8 * g < xs.length := by omega
    refine (Z4 _ _).trans ?_
    have e1 : (if (↑xs.length : Int) < (w64 (((8 * g : Nat) : Int) + 8)) then (↑xs.length : Int) else (w64 (((8 * g : Nat) : Int) + 8))) = ((min (8 * g + 8) xs.length : Nat) : Int) := by
      rw [Z0s (by omega) (by omega)]; split <;> omega
    have e2 : (xs.drop (8 * g)).take (min (8 * g + 8) xs.length - 8 * g) = (xs.drop (8 * g)).take 8 := by
      by_cases h : 8 * g + 8 ≤ xs.length
      · rw [Nat.min_eq_left h, show 8 * g + 8 - 8 * g = 8 by omega]
      · rw [List.take_of_length_le (by rw [List.length_drop]; omega), List.take_of_length_le (by rw [List.length_drop]; omega)]
    simp only [Z79, Tr.den, flowJ, e1]
    rw [decide_eq_true (show ((8 * g : Nat) : Int) < (xs.length : Int) by omega), decide_eq_true (show (0 : Int) ≤ ((min (8 * g + 8) xs.length : Nat) : Int) ∧ ((min (8 * g + 8) xs.length : Nat) : Int) ≤ (xs.length : Int) by omega)]
    simp only [Int.toNat_natCast]
    rw [decide_eq_true (show (0 : Int) ≤ ((8 * g : Nat) : Int) ∧ ((8 * g : Nat) : Int) ≤ ((min (8 * g + 8) xs.length : Nat) : Int) by omega), e2, Zv1 _ ((hb.drop _).take _) (by rw [List.length_take]; omega)]
    simp only [cond_true, Option.bind_some]
    rw [Zdg k _ hk (b64 _ _ _), Option.bind_some, Z0s (by omega) (by omega), show ((8 * g : Nat) : Int) + 8 = ((8 * (g + 1) : Nat) : Int) by omega, ih (g + 1) _ (by omega)]
    rw [tagR, tagR, List.range'_succ]
    rfl
theorem Zo0 (k : Int) (hk : K64 k) (xs : List Int) (hb : Bytes xs) (hl : xs.length ≤ 100000) : Z74 k xs = some (tagv k xs) := (Z4 _ _).trans (by
  simp only [Z79, Tr.den, flowJ]
  rw [wu64 (by omega) (by omega), Zdg k _ hk ⟨by omega, by omega⟩, Option.bind_some]
  exact Zsk k hk xs hb hl (gN xs) 0 _ (by omega))
end Go.Proofs.YtefmbgacbhifdaaGreat
namespace Go.Proofs.YtefmbgacbhifdaaGreat
open Go Go.Proofs.YtefmbgacbhifdaaGreat.Le
set_option maxRecDepth 100000
def lab (st : ByteArray) : List Int := st.data.toList.map fun b => (b.toNat : Int)
theorem ZtR (st : ByteArray) : okStr U 5 st = true := List.all_eq_true.2 fun b _ => rfl
theorem ZjT (st : ByteArray) : Z1d U 5 st = lab st := by
  unfold Z1d lab
  induction st.data.toList with
  | nil => rfl
  | cons b l ih => exact congrArg (List.cons ((b.toNat : Nat) : Int)) ih
theorem ZoE (st : ByteArray) : Bytes (lab st) := fun x hx => by
  obtain ⟨b, _, rfl⟩ := List.mem_map.1 hx
  have : b.toNat < 256 := b.toNat_lt
  omega
theorem Zv9 (st : ByteArray) : (lab st).length = st.size := by rw [lab, List.length_map, Array.length_toList]; rfl
theorem Zod (l : List Int) (n : Nat) : Bytes (l.flatMap (num n)) := Bytes.flat _ _ fun x _ => Z4m n x
theorem ZjP : Bytes [0] := Bytes.cons ⟨by decide, by decide⟩ Bytes.nil
noncomputable def Z48 (k : Int) (st : ByteArray) (parts : List Int) : Int := tagv k (lab st ++ [0] ++ parts.flatMap (num 8))
theorem Z5l (k : Int) (st : ByteArray) (parts : List Int) : K64 (Z48 k st parts) := Zqa _ _
theorem Z35 (k : Int) (st : ByteArray) (parts : List Int) (hs : st.size ≤ 1000) (hp : ∀ x ∈ parts, K64 x) (hl : parts.length ≤ 100) : Z1J k st parts = some (Z48 k st parts) := (Z4 _ _).trans (by
  have h1 := ZbM (num 8) 8 parts fun x _ => ZH 8 x
  have h2 := Zv9 st
  simp only [Z9q, ZtR, ZjT, ZuR parts hp hl, Tr.den, flowJ, SL, SM]
  rw [Zfw _ (by simp [h1, h2]; omega) (by simp)]
  simp only [Option.bind_some, List.flatten_cons, List.flatten_nil, List.append_nil]
  rw [v_Tag k _ ((ZoE st).app (ZjP.app (Zod parts 8))) (by simp [h1, h2]; omega)]
  rw [Z48, List.append_assoc]
  rfl)
theorem Zfm (k : Int) (hk : K64 k) (st : ByteArray) (parts : List Int) (hs : st.size ≤ 1000) (hp : ∀ x ∈ parts, K64 x) (hl : parts.length ≤ 100) : Z6d k st parts = some (Z48 k st parts) := (Z4 _ _).trans (by
  have h1 := ZbM (num 8) 8 parts fun x _ => ZH 8 x
  have h2 := Zv9 st
  simp (disch := omega) only [Z30, ZtR, ZjT, Tr.den, flowJ, SL, SM]
  have := Z5h (fun s i => flow Z30 (.b1 k parts s i)) parts (num 8) (fun s => Z74 k s) 5000 (fun i s hi hs => (Z4 _ _).trans (by
      have hx := hp parts[i] (List.getElem_mem hi)
      rw [ZH] at hs
      have h8 : ZG 8 parts[i] = some ⟨num 8 parts[i]⟩ := v_Num 8 (by decide) _ hx
      simp (disch := omega) only [Z30, hi, h8, ZH, Tr.den, flowJ, SL, SM]))
    (fun s => (Z4 _ _).trans (by
      simp only [Z30, Int.lt_irrefl, Tr.den, flowJ, SL, SM]
      cases Z74 k s <;> rfl)) (lab st ++ [0]) (by rw [List.length_append, List.length_cons, List.length_nil, h1, h2]; omega)
  refine this.trans ?_
  rw [Zo0 k hk _ (((ZoE st).app ZjP).app (Zod parts 8)) (by simp [h1, h2]; omega)]
  rfl)
noncomputable def strm (k s : Int) : Nat → List Int
  | 0 => []
  | i + 1 => strm k s i ++ num 8 (mixv k (IntKind.wrap .u64 (s + i)))
theorem Zdl (k s : Int) (i : Nat) : (strm k s i).length = 8 * i := by
  induction i with
  | zero => rfl
  | succ i ih => rw [strm, List.length_append, ih, ZH]; omega
noncomputable def Z6y (k nonce : Int) (n : Nat) : List Int := (strm k (mixv k nonce) ((n + 7) / 8)).take n
theorem Zc4 (k nonce : Int) (n : Nat) : (Z6y k nonce n).length = n := by
  rw [Z6y, List.length_take, Zdl]; omega
theorem ZlR (x : Int) (h : K64 x) : Z2K [x] = some (num 8 x) := by
  rw [ZuR [x] (fun y hy => by rw [List.mem_singleton.1 hy]; exact h) (by simp)]
  simp
theorem Zlt (k s : Int) (n : Nat) (hn : n ≤ 100000) : ∀ d i : Nat, i + d = (n + 7) / 8 → flow Z32 (.b1 k n s (strm k s i) i) = some ((strm k s ((n + 7) / 8)).take n) := by
  intro d
  induction d with
  | zero =>
    intro i hi
    obtain rfl : i = (n + 7) / 8 := by omega
    have hl := Zdl k s ((n + 7) / 8)
    refine (Z4 _ _).trans ?_
    have h2 : decide ((n : Int) ≤ ((8 * ((n + 7) / 8) : Nat) : Int)) = true := decide_eq_true (by omega)
    simp (disch := omega) only [Z32, hl, h2, List.drop_zero, Nat.sub_zero, Tr.den, flowJ, SL, SM]
  | succ d ih =>
    intro i hi
    have hl := Zdl k s i
    refine (Z4 _ _).trans ?_
    have hlt : 8 * i < n := by omega
    simp (disch := omega) only [Z32, hl, hlt, v_Mix, ZlR _ (Zlx _ _), ZH, Tr.den, flowJ, SL, SM]
    rw [wu64 (n := (i : Int) + 1) (by omega) (by omega)]
    exact ih (i + 1) (by omega)
theorem Zn0 (k nonce : Int) (n : Nat) (hn : n ≤ 100000) : Z9g k nonce n = some (Z6y k nonce n) := (Z4 _ _).trans (by
  have e : w64 ((n : Int) + 8) = ((n + 8 : Nat) : Int) := by rw [Z0s (by omega) (by omega)]; simp
  have h : decide ((0 : Int) ≤ 0 ∧ (0 : Int) ≤ ((n + 8 : Nat) : Int) ∧ Int.toNat ((n + 8 : Nat) : Int) * 1 ≤ lim ∧ ((n + 8 : Nat) : Int) ≤ (↑maxLen : Int)) = true :=
    decide_eq_true ⟨by decide, by omega, by rw [Int.toNat_natCast]; exact Nat.le_trans (by omega) Zno, by exact_mod_cast Nat.le_trans (show n + 8 ≤ 1000000000 by omega) Z7s⟩
  simp only [Z32, Tr.den, flowJ, v_Mix, Option.bind_some, e]
  rw [h]
  exact Zlt k _ n hn ((n + 7) / 8) 0 (by omega))
theorem ZlI (k : Int) (hk : K64 k) (s : Int) (n : Nat) (hn : n ≤ 100000) : ∀ d i : Nat, i + d = (n + 7) / 8 → flow Z2X (.b1 k n (strm k s i) s i) = some ((strm k s ((n + 7) / 8)).take n) := by
  intro d
  induction d with
  | zero =>
    intro i hi
    obtain rfl : i = (n + 7) / 8 := by omega
    have hl := Zdl k s ((n + 7) / 8)
    refine (Z4 _ _).trans ?_
    have h2 : decide ((n : Int) ≤ ((8 * ((n + 7) / 8) : Nat) : Int)) = true := decide_eq_true (by omega)
    have h3 : decide (0 + n ≤ 8 * ((n + 7) / 8)) = true := decide_eq_true (by omega)
    have h4 : decide (n ≤ 8 * ((n + 7) / 8)) = true := decide_eq_true (by omega)
    simp (disch := omega) only [Z2X, hl, h2, h3, h4, List.drop_zero, Nat.sub_zero, Tr.den, flowJ, SL, SM]
  | succ d ih =>
    intro i hi
    have hl := Zdl k s i
    refine (Z4 _ _).trans ?_
    have hlt : 8 * i < n := by omega
    have hm := Zlx k (IntKind.wrap .u64 (s + i))
    have h8 : ZG 8 (mixv k (IntKind.wrap .u64 (s + i))) = some ⟨num 8 (mixv k (IntKind.wrap .u64 (s + i)))⟩ := v_Num 8 (by decide) _ hm
    simp (disch := omega) only [Z2X, hl, hlt, wu64 (n := (i : Int)) (by omega) (by omega), Zdg k _ hk (r64 _), h8, ZH, Tr.den, flowJ, SL, SM]
    exact ih (i + 1) (by omega)
theorem Zop (k : Int) (hk : K64 k) (nonce : Int) (hx : K64 nonce) (n : Nat) (hn : n ≤ 100000) : Z99 k nonce n = some (Z6y k nonce n) := (Z4 _ _).trans (by
  simp only [Z2X, Zdg k _ hk hx, Tr.den, flowJ, SL, SM]
  exact ZlI k hk _ n hn ((n + 7) / 8) 0 (by omega))
def xorv (a b : List Int) : List Int := List.zipWith (bits .xor .u8) a b
theorem Z4h (a b : List Int) : (xorv a b).length = min a.length b.length := List.length_zipWith
theorem ZeS (a b : List Int) : Bytes (xorv a b) := fun x hx => by
  obtain ⟨i, hi, rfl⟩ := List.getElem_of_mem hx
  simp only [xorv, List.getElem_zipWith]
  exact b8 _ _ _
theorem ZxW (ys : List Int) (i : Nat) (h : i < ys.length) : (ys.take i ++ List.replicate (ys.length - i) (0 : Int)).set i ys[i] = ys.take (i + 1) ++ List.replicate (ys.length - (i + 1)) 0 := by
  rw [show ys.length - i = (ys.length - (i + 1)) + 1 by omega, List.replicate_succ, List.set_append_right _ _ (by rw [List.length_take]; omega), List.length_take, Nat.min_eq_left (by omega), Nat.sub_self, List.set_cons_zero, List.take_add_one, List.getElem?_eq_getElem h, List.append_assoc]
  rfl
theorem Zlv (a b : List Int) (ha : a.length ≤ 100000) : ∀ d i : Nat, i + d = (xorv a b).length → flow Z33 (.b1 a b ((xorv a b).take i ++ List.replicate ((xorv a b).length - i) 0) (xorv a b).length i) = some (xorv a b) := by
  have hx := Z4h a b
  intro d
  induction d with
  | zero =>
    intro i hi
    obtain rfl : i = (xorv a b).length := by omega
    refine (Z4 _ _).trans ?_
    simp only [Z33, Int.lt_irrefl, Nat.sub_self, List.replicate_zero, List.append_nil, List.take_length, Tr.den, flowJ, SL, SM]
  | succ d ih =>
    intro i hi
    have hlt : i < (xorv a b).length := by omega
    have h1 : i < a.length := by omega
    have h2 : i < b.length := by omega
    have hs := ZxW (xorv a b) i hlt
    have hb : bits .xor .u8 a[i] b[i] = (xorv a b)[i] := by simp only [xorv, List.getElem_zipWith]
    have hl : ((xorv a b).take i ++ List.replicate ((xorv a b).length - i) (0 : Int)).length = (xorv a b).length := by
      rw [List.length_append, List.length_take, List.length_replicate]; omega
    rw [← ih (i + 1) (by omega)]
    refine (Z4 _ _).trans ?_
    generalize hO : (xorv a b).take i ++ List.replicate ((xorv a b).length - i) (0 : Int) = O at *
    simp (disch := omega) only [Z33, Tr.den, flowJ, Int.natCast_nonneg, Int.ofNat_lt, hlt, h1, h2, Int.toNat_natCast, List.getElem?_eq_getElem, Option.bind_some, decide_true, cond_true, true_and, hl, beq_self_eq_true, Bool.true_and, Nat.zero_le, List.length_set, Zmk, hb, hs]
theorem Zog (a b : List Int) (ha : a.length ≤ 100000) : Z9M a b = some (xorv a b) := (Z4 _ _).trans (by
  have hx := Z4h a b
  have e : (if (↑b.length : Int) < (↑a.length : Int) then (↑b.length : Int) else (↑a.length : Int)) = ((xorv a b).length : Int) := by rw [hx]; split <;> omega
  have h : decide (0 ≤ ((xorv a b).length : Int) ∧ ((xorv a b).length : Int) ≤ ((xorv a b).length : Int) ∧ (xorv a b).length * 1 ≤ lim ∧ ((xorv a b).length : Int) ≤ (↑maxLen : Int)) = true :=
    decide_eq_true ⟨by omega, by omega, Nat.le_trans (by omega) Zno, by exact_mod_cast Nat.le_trans (show (xorv a b).length ≤ 1000000000 by omega) Z7s⟩
  simp only [Z33, Tr.den, flowJ, e, Int.toNat_natCast, h, cond_true, beq_self_eq_true, List.length_replicate]
  exact Zlv a b ha _ 0 (Nat.zero_add _))
theorem Zsr (a b : List Int) (ha : a.length ≤ 100000) : ∀ d i : Nat, i + d = (xorv a b).length → flow Z5P (.b1 a b ((xorv a b).take i) i) = some ⟨xorv a b⟩ := by
  have hx := Z4h a b
  intro d
  induction d with
  | zero =>
    intro i hi
    obtain rfl : i = (xorv a b).length := by omega
    refine (Z4 _ _).trans ?_
    simp only [Z5P, Tr.den, flowJ, SL, SM]
    by_cases h1 : (xorv a b).length < a.length
    · have h2 : ¬ (xorv a b).length < b.length := by omega
      simp only [h1, h2, decide_true, decide_false, cond_true, cond_false, List.take_length]
    · simp only [h1, decide_false, cond_false, List.take_length]
  | succ d ih =>
    intro i hi
    have hlt : i < (xorv a b).length := by omega
    have h1 : i < a.length := by omega
    have h2 : i < b.length := by omega
    have hb : bits .xor .u8 a[i] b[i] = (xorv a b)[i] := by simp only [xorv, List.getElem_zipWith]
    have hl : ((xorv a b).take i).length = i := by rw [List.length_take]; omega
    have ht : (xorv a b).take i ++ [(xorv a b)[i]] = (xorv a b).take (i + 1) := by rw [List.take_add_one, List.getElem?_eq_getElem hlt]; rfl
    refine (Z4 _ _).trans ?_
    simp (disch := omega) only [Z5P, h1, h2, Tr.den, flowJ, SL, SM]
    refine (Z4 _ _).trans ?_
    simp (disch := omega) only [Z5P, h1, h2, hl, hb, ht, Tr.den, flowJ, SL, SM]
    exact ih (i + 1) (by omega)
theorem ZuB (a b : List Int) (ha : a.length ≤ 100000) : Zii a b = some ⟨xorv a b⟩ := (Z4 _ _).trans (by
  simp only [Z5P, Tr.den, flowJ, SL, SM]
  exact Zsr a b ha _ 0 (Nat.zero_add _))
theorem Zpw (a b : List Int) (ha : a.length ≤ 100000) : ∀ d i : Nat, i + d = (xorv a b).length → flow Z2U (.b1 a b ((xorv a b).take i) i) = some ⟨xorv a b, b⟩ := by
  have hx := Z4h a b
  intro d
  induction d with
  | zero =>
    intro i hi
    obtain rfl : i = (xorv a b).length := by omega
    refine (Z4 _ _).trans ?_
    simp only [Z2U, Tr.den, flowJ, SL, SM]
    by_cases h1 : (xorv a b).length < a.length
    · have h2 : ¬ (xorv a b).length < b.length := by omega
      simp only [h1, h2, decide_true, decide_false, cond_true, cond_false, List.take_length]
    · simp only [h1, decide_false, cond_false, List.take_length]
  | succ d ih =>
    intro i hi
    have hlt : i < (xorv a b).length := by omega
    have h1 : i < a.length := by omega
    have h2 : i < b.length := by omega
    have hb : bits .xor .u8 a[i] b[i] = (xorv a b)[i] := by simp only [xorv, List.getElem_zipWith]
    have hl : ((xorv a b).take i).length = i := by rw [List.length_take]; omega
    have ht : (xorv a b).take i ++ [(xorv a b)[i]] = (xorv a b).take (i + 1) := by rw [List.take_add_one, List.getElem?_eq_getElem hlt]; rfl
    refine (Z4 _ _).trans ?_
    simp (disch := omega) only [Z2U, h1, h2, Tr.den, flowJ, SL, SM]
    refine (Z4 _ _).trans ?_
    simp (disch := omega) only [Z2U, h1, h2, hl, hb, ht, Tr.den, flowJ, SL, SM]
    exact ih (i + 1) (by omega)
theorem ZrL (a b : List Int) (ha : a.length ≤ 100000) : ZbQ a b = some ⟨xorv a b, b⟩ := (Z4 _ _).trans (by
  simp only [Z2U, Tr.den, flowJ, SL, SM]
  exact Zpw a b ha _ 0 (Nat.zero_add _))
noncomputable def tailv (k nonce : Int) (hd c : List Int) : List Int := num 4 (tagv k (num 8 nonce ++ num 4 hd.length ++ hd ++ c))
noncomputable def sealv (k nonce : Int) (hd p : List Int) : List Int := xorv p (Z6y k nonce p.length) ++ tailv k nonce hd (xorv p (Z6y k nonce p.length))
theorem Zhv (k nonce : Int) (hd c : List Int) : (tailv k nonce hd c).length = 4 := ZH _ _
theorem ZiA (k nonce : Int) (hd p : List Int) : (sealv k nonce hd p).length = p.length + 4 := by
  rw [sealv, List.length_append, Z4h, Zc4, Zhv, Nat.min_self]
theorem ZhJ (k nonce : Int) (hd p : List Int) : Bytes (sealv k nonce hd p) := (ZeS _ _).app (Z4m _ _)
theorem Zsm (k nonce : Int) (hx : K64 nonce) (hd c : List Int) (hh : Bytes hd) (hc : Bytes c) (hl : hd.length ≤ 1000) (hm : c.length ≤ 50000) : Zf2 k nonce hd c = some (tailv k nonce hd c) := (Z4 _ _).trans (by
  simp only [Zfc, wu32 (n := (hd.length : Int)) (by omega) (by omega), wu64 (n := (hd.length : Int)) (by omega) (by omega), ZlR nonce hx, Tr.den, flowJ, SL, SM]
  rw [v_Put [⟨4, hd.length⟩] (fun f hf => by
    rw [List.mem_singleton.1 hf]
    exact ⟨show (1 : Int) ≤ 4 by decide, show (4 : Int) ≤ 8 by decide, show (0 : Int) ≤ hd.length by omega, show (hd.length : Int) < 4294967296 by omega⟩) (by simp [Z3A, ZH]) (by simp)]
  simp only [Option.bind_some, List.flatMap_cons, List.flatMap_nil, List.append_nil, Z3A, show Int.toNat 4 = 4 from rfl]
  rw [Zfw _ (by simp [ZH]; omega) (by simp)]
  simp only [Option.bind_some, List.flatten_cons, List.flatten_nil, List.append_nil]
  rw [v_Tag k _ ((Z4m _ _).app ((Z4m _ _).app (hh.app hc))) (by simp [ZH]; omega)]
  simp only [Option.bind_some]
  rw [ZlR _ (Zqa _ _)]
  simp only [Option.bind_some, ZH]
  rw [show decide ((0 : Int) ≤ 4 ∧ (4 : Int) ≤ ((8 : Nat) : Int)) = true from rfl]
  simp only [cond_true, List.drop_zero, show Int.toNat 4 - 0 = 4 from rfl, ZvF 4 8 _ (by decide), tailv, List.append_assoc])
theorem Zkn (k nonce : Int) (hx : K64 nonce) (hd p : List Int) (hh : Bytes hd) (hl : hd.length ≤ 1000) (hm : p.length ≤ 50000) : Z7h k nonce hd p = some (sealv k nonce hd p) := (Z4 _ _).trans (by
  have e := Z4h p (Z6y k nonce p.length)
  rw [Zc4, Nat.min_self] at e
  simp only [ZdW, Zn0 k nonce p.length (by omega), Zog p _ (by omega), Zsm k nonce hx hd (xorv p (Z6y k nonce p.length)) hh (ZeS _ _) hl (by omega), Tr.den, flowJ, SL, SM]
  rw [Zfw _ (by simp [Zhv, e]; omega) (by simp)]
  simp only [Option.bind_some, List.flatten_cons, List.flatten_nil, List.append_nil, sealv])
theorem Zvz (k : Int) (hk : K64 k) (nonce : Int) (hx : K64 nonce) (hd c : List Int) (hh : Bytes hd) (hc : Bytes c) (hl : hd.length ≤ 1000) (hm : c.length ≤ 50000) : Zie k nonce hd c = some (tailv k nonce hd c) := (Z4 _ _).trans (by
  have h8 : ZG 8 nonce = some ⟨num 8 nonce⟩ := v_Num 8 (by decide) _ hx
  have h4 : ZG 4 hd.length = some ⟨num 4 hd.length⟩ := v_Num 4 (by decide) _ ⟨by omega, by omega⟩
  have hi : ZbF nonce hd c = some ⟨num 8 nonce ++ num 4 hd.length ++ hd ++ c⟩ := (Z4 _ _).trans (by
    simp (disch := omega) only [ZbT, wu64 (n := (hd.length : Int)) (by omega) (by omega), h8, h4, ZH, Tr.den, flowJ, SL, SM])
  have ht : ZG 4 (tagv k (num 8 nonce ++ num 4 hd.length ++ hd ++ c)) = some ⟨num 4 (tagv k (num 8 nonce ++ num 4 hd.length ++ hd ++ c))⟩ := v_Num 4 (by decide) _ (Zqa _ _)
  simp only [Zhg, hi, Tr.den, flowJ, SL, SM]
  rw [Zo0 k hk _ ((((Z4m _ _).app (Z4m _ _)).app hh).app hc) (by simp [ZH]; omega)]
  simp only [Option.bind_some, ht, tailv])
theorem ZjU (k : Int) (hk : K64 k) (nonce : Int) (hx : K64 nonce) (hd p : List Int) (hh : Bytes hd) (hl : hd.length ≤ 1000) (hm : p.length ≤ 50000) : Z7B k nonce hd p = some (sealv k nonce hd p) := (Z4 _ _).trans (by
  have e := Z4h p (Z6y k nonce p.length)
  rw [Zc4, Nat.min_self] at e
  simp (disch := omega) only [Zej, Zop k hk nonce hx p.length (by omega), ZuB p _ (by omega), Zvz k hk nonce hx hd (xorv p (Z6y k nonce p.length)) hh (ZeS _ _) hl (by omega), Zhv, e, sealv, Tr.den, flowJ, SL, SM])
def U32 (x : Int) : Prop := 0 ≤ x ∧ x < 4294967296
def U16 (x : Int) : Prop := 0 ≤ x ∧ x < 65536
noncomputable def ZcD (kind src seq iv : Int) : Int := Z48 0 (⟨#[110, 111, 110, 99, 101]⟩ : ByteArray) [kind, src, seq, iv]
theorem Zhq {kind src seq iv : Int} (hk : K64 kind) (h1 : U16 src) (h2 : U32 seq) (h3 : U32 iv) : (∀ x ∈ [kind, src, seq, iv], K64 x) ∧ [(IntKind.wrap .u64 (kind)), (IntKind.wrap .u64 (src)), (IntKind.wrap .u64 (seq)), (IntKind.wrap .u64 (iv))] = [kind, src, seq, iv] := by
  have a1 := h1.1; have a2 := h1.2; have a3 := h2.1; have a4 := h2.2; have a5 := h3.1; have a6 := h3.2
  refine ⟨fun x hx => ?_, ?_⟩
  · simp only [List.mem_cons, List.not_mem_nil, or_false] at hx
    rcases hx with rfl | rfl | rfl | rfl
    · exact hk
    all_goals exact ⟨by omega, by omega⟩
  · rw [wu64 hk.1 hk.2, wu64 (by omega) (by omega), wu64 (by omega) (by omega), wu64 (by omega) (by omega)]
theorem Z9u {kind src seq iv : Int} (hk : K64 kind) (h1 : U16 src) (h2 : U32 seq) (h3 : U32 iv) : Z3k kind src seq iv = some (ZcD kind src seq iv) := (Z4 _ _).trans (by
  obtain ⟨hp, he⟩ := Zhq hk h1 h2 h3
  have : Z5t [kind, src, seq, iv] = some (ZcD kind src seq iv) := (Z4 _ _).trans (by
    simp only [Z60, Tr.den, flowJ, Z35 0 (⟨#[110, 111, 110, 99, 101]⟩ : ByteArray) [kind, src, seq, iv] (by decide) hp (by simp)]
    rfl)
  simp only [Z5Z, he, this, Tr.den, flowJ, SL, SM])
theorem ZbL {kind src seq iv : Int} (hk : K64 kind) (h1 : U16 src) (h2 : U32 seq) (h3 : U32 iv) : Z5z kind src seq iv = some (ZcD kind src seq iv) := (Z4 _ _).trans (by
  obtain ⟨hp, he⟩ := Zhq hk h1 h2 h3
  simp only [Zb8, he, Zfm 0 ⟨by decide, by decide⟩ (⟨#[110, 111, 110, 99, 101]⟩ : ByteArray) [kind, src, seq, iv] (by decide) hp (by simp), Tr.den, flowJ, SL, SM]
  rfl)
theorem Zd1 (a b c d : Int) : K64 (ZcD a b c d) := Z5l _ _ _
noncomputable def netv (k : Int) : Zd := ⟨k, Z48 k (⟨#[110, 105, 100]⟩ : ByteArray) [] % 128, Z48 k (⟨#[101, 110, 99, 114, 121, 112, 116]⟩ : ByteArray) [], Z48 k (⟨#[104, 105, 100, 101]⟩ : ByteArray) [], Z48 k (⟨#[98, 101, 97, 99, 111, 110]⟩ : ByteArray) []⟩
theorem Zgs (k : Int) : Z4Y k = some (netv k) := (Z4 _ _).trans (by
  have h := Z5l k (⟨#[110, 105, 100]⟩ : ByteArray) []
  have h1 := h.1
  simp only [Z4M, Tr.den, flowJ]
  rw [Z35 k _ _ (by decide) (fun x hx => by cases hx) (by simp), Z35 k _ _ (by decide) (fun x hx => by cases hx) (by simp), Z35 k _ _ (by decide) (fun x hx => by cases hx) (by simp), Z35 k _ _ (by decide) (fun x hx => by cases hx) (by simp)]
  simp only [Option.bind_some, Int.tmod_eq_emod_of_nonneg h1]
  rw [Z0s (by omega) (by omega)]
  rfl)
noncomputable def ZcM (app : Bool) (id : Za) : Int := ZcD (if app then 1 else 2) id.Src id.Seq id.IV
noncomputable def Z2n (k : Int) (app : Bool) (id : Za) (dst : Int) (b : List Int) : List Int := sealv k (ZcM app id) (num 2 dst) b
structure SeqOK (id : Za) : Prop where
  src : U16 id.Src
  seq : U32 id.Seq
  iv : U32 id.IV
theorem two16 {x : Int} (h : U16 x) : [(IntKind.wrap .u8 (x)), (IntKind.wrap .u8 ((Int.fdiv x (2 ^ (8 : Nat)))))] = num 2 x := by
  have h1 := h.1
  have h2 := h.2
  rw [Int.fdiv_eq_ediv_of_nonneg _ (by decide), IntKind.wrap_u8, IntKind.wrap_u8]
  rfl
theorem ZdN (k : Int) (app : Bool) (id : Za) (hid : SeqOK id) (dst : Int) (hd : U16 dst) (b : List Int) (hl : b.length ≤ 50000) : Z3W k app id dst b = some (Z2n k app id dst b) := (Z4 _ _).trans (by
  have key : Z4W app id dst = some (ZcM app id, num 2 dst) := by
    have h : ∀ kind, K64 kind → flow Z2E (.b1 dst kind id) = some (ZcD kind id.Src id.Seq id.IV, num 2 dst) := fun kind hk => (Z4 _ _).trans (by
      simp only [Z2E, Z9u hk hid.src hid.seq hid.iv, two16 hd, ZH, Tr.den, flowJ, SL, SM])
    refine (Z4 _ _).trans ?_
    cases app with
    | true => exact h 1 ⟨by decide, by decide⟩
    | false => exact h 2 ⟨by decide, by decide⟩
  simp only [Z3V, key, Tr.den, flowJ, Option.bind_some, Zkn k (ZcM app id) (Zd1 _ _ _ _) (num 2 dst) b (Z4m _ _) (by rw [ZH]; decide) hl]
  rfl)
theorem Zma (k : Int) (hk : K64 k) (app : Bool) (id : Za) (hid : SeqOK id) (dst : Int) (hd : U16 dst) (b : List Int) (hl : b.length ≤ 50000) : Z7T k app id dst b = some (Z2n k app id dst b) := (Z4 _ _).trans (by
  have key : ZbS app id = some (ZcM app id) := by
    refine (Z4 _ _).trans ?_
    cases app with
    | true => simp only [Z8b, Tr.den, flowJ, cond_true, ZbL (kind := 1) ⟨by decide, by decide⟩ hid.src hid.seq hid.iv]; rfl
    | false => simp only [Z8b, Tr.den, flowJ, cond_false, ZbL (kind := 2) ⟨by decide, by decide⟩ hid.src hid.seq hid.iv]; rfl
  have h1 := hd.1
  have h2 := hd.2
  have h3 : ZG 2 dst = some ⟨num 2 dst⟩ := v_Num 2 (by decide) _ ⟨by omega, by omega⟩
  simp only [Z85, key, wu64 (n := dst) (by omega) (by omega), h3, ZjU k hk (ZcM app id) (Zd1 _ _ _ _) (num 2 dst) b (Z4m _ _) (by rw [ZH]; decide) hl, ZH, Tr.den, flowJ, SL, SM]
  rfl)
end Go.Proofs.YtefmbgacbhifdaaGreat
namespace Go.Proofs.YtefmbgacbhifdaaGreat
open Go Go.Proofs.YtefmbgacbhifdaaGreat.Le
set_option maxRecDepth 100000
theorem Z9k (a x : Bool) : (bif a then some x else some false) = some (a && x) := by cases a <;> rfl
def nodeB (a : Int) : Bool := decide (a > 0) && decide (a ≤ 32767)
def Z4v (a : Int) : Bool := decide (a ≥ 49152)
theorem Z59 (a : Int) : Z1g a = some (nodeB a) := (Z4 _ _).trans (by simp only [Z7G, Tr.den, flowJ, Z9k, nodeB])
theorem Z6A (a : Int) : Z2C a = some (Z4v a) := (Z4 _ _).trans rfl
theorem ZdM (a : Int) : Z3T a = some (nodeB a) := (Z4 _ _).trans (by
  simp only [Ze0, Tr.den, flowJ, Z9k, nodeB]
  rw [show decide (a < 32768) = decide (a ≤ 32767) from decide_eq_decide.2 (by omega)])
theorem Zbf (a : Int) : Z5A a = some (Z4v a) := (Z4 _ _).trans rfl
def ZbZ (p : Zc) : Int := if (p.Payload.length : Int) > 16 then 4 else 0
def Zbp (p : Zc) : Int := if nodeB p.Src = false then 1 else if nodeB p.Dst = false ∧ Z4v p.Dst = false then 1 else if p.Payload = [] then 1 else ZbZ p
def checkN (p : Zc) : Int := if p.NID < 0 then 5 else if p.NID ≥ 128 then 5 else if p.TTL < 0 then 5 else if p.TTL > 127 then 5 else if p.Seq > 16777215 then 5 else Zbp p
theorem len0 {α : Type} (l : List α) : ((l.length : Int) == 0) = decide (l = []) := by
  cases l with
  | nil => rfl
  | cons a l => simp; omega
theorem Z1l (p : Prop) [Decidable p] (a b : Int) : (if p then some a else some b) = some (if p then a else b) := by split <;> rfl
theorem Zja (p : Zc) : Z6Z p = some (checkN p) := by
  have h2 : flow Z1h (.b2 p) = some (ZbZ p) := (Z4 _ _).trans (by simp only [Z1h, Tr.den, flowJ, Bool.cond_decide, Z1l, ZbZ])
  have h1 : flow Z1h (.b1 p) = some (Zbp p) := (Z4 _ _).trans (by
    simp only [Z1h, Tr.den, flowJ, Z59, Z6A, Option.bind_some, h2, Zbp, len0]
    cases nodeB p.Src <;> cases nodeB p.Dst <;> cases Z4v p.Dst <;> by_cases hp : p.Payload = [] <;> simp [hp])
  refine (Z4 _ _).trans ?_
  simp only [Z1h, Tr.den, flowJ, h1, Bool.cond_decide, Z1l, checkN]
theorem Zp7 (p : Zc) : Zbt p = some (checkN p) := by
  have h2 : flow Z2T (.b2 p) = some (ZbZ p) := (Z4 _ _).trans (by simp only [Z2T, Tr.den, flowJ, Bool.cond_decide, Z1l, ZbZ])
  have h1 : flow Z2T (.b1 p) = some (Zbp p) := (Z4 _ _).trans (by
    simp only [Z2T, Tr.den, flowJ, ZdM, Zbf, Option.bind_some, h2, Zbp, len0]
    cases nodeB p.Src <;> cases nodeB p.Dst <;> cases Z4v p.Dst <;> by_cases hp : p.Payload = [] <;> simp [hp])
  refine (Z4 _ _).trans ?_
  simp only [Z2T, Tr.den, flowJ, h1, Bool.cond_decide, Z1l, checkN, show (p.NID > 127) = (p.NID ≥ 128) from propext (by omega)]
structure NetOK (p : Zc) : Prop where
  nid : 0 ≤ p.NID ∧ p.NID ≤ 127
  ttl : 0 ≤ p.TTL ∧ p.TTL ≤ 127
  seq : p.Seq ≤ 16777215
  len : 0 < p.Payload.length ∧ p.Payload.length ≤ 16
theorem Zik {p : Zc} (h : checkN p = 0) : NetOK p := by
  unfold checkN Zbp ZbZ at h
  repeat' split at h
  all_goals first | (exfalso; revert h; decide) | skip
  rename_i a b c d e f g i j
  have := List.length_pos_iff.2 i
  exact ⟨by omega, by omega, by omega, by omega⟩
def ctl (p : Zc) : Int := if p.Control then p.TTL + 128 else p.TTL
theorem Zxd {p : Zc} (h : NetOK p) : 0 ≤ ctl p ∧ ctl p < 256 := by
  have := h.ttl
  unfold ctl
  split <;> omega
theorem Z8M (p : Zc) (h : NetOK p) : Z2D p = some (ctl p) := (Z4 _ _).trans (by
  have := h.ttl
  simp only [Z4O, Tr.den, flowJ, ctl]
  rw [wu8 (by omega) (by omega), or_lo .u8 8 (by decide) wraps_u8 7 (by decide) p.TTL 128 (by decide) (by decide) (by decide) (by omega) (by show p.TTL < 128; omega)]
  cases p.Control <;> rfl)
theorem ZlH (p : Zc) (h : NetOK p) : Z58 p = some (ctl p) := (Z4 _ _).trans (by
  have := h.ttl
  simp only [Z8w, Tr.den, flowJ, ctl]
  rw [Z0s (by omega) (by omega), wu8 (n := p.TTL + 128) (by omega) (by omega), wu8 (by omega) (by omega)]
  cases p.Control <;> rfl)
def olist (o : Zn) : List Int := [o.x0, o.x1, o.x2, o.x3, o.x4, o.x5]
theorem ZvD (a b : Zn) : ∃ c, Z3G a b = some c ∧ olist c = xorv (olist a) (olist b) :=
  ⟨⟨bits .xor .u8 a.x0 b.x0, bits .xor .u8 a.x1 b.x1, bits .xor .u8 a.x2 b.x2, bits .xor .u8 a.x3 b.x3, bits .xor .u8 a.x4 b.x4, bits .xor .u8 a.x5 b.x5⟩,
    (Z4 _ _).trans ((Z4 Z07 (.b1 0 a b Z0h)).trans ((Z4 Z07 (.b1 1 _ b Z0h)).trans ((Z4 Z07 (.b1 2 _ b Z0h)).trans ((Z4 Z07 (.b1 3 _ b Z0h)).trans ((Z4 Z07 (.b1 4 _ b Z0h)).trans ((Z4 Z07 (.b1 5 _ b Z0h)).trans ((Z4 Z07 (.b1 6 _ b Z0h)).trans rfl))))))), rfl⟩
theorem mask6 (x : Int) (z : Zn) : ∃ c, flow Z0r (.b1 x 0 Z0h z) = some c ∧ olist c = num 6 x := by
  have h : ∀ j : Nat, j ≤ 8 → IntKind.wrap .u8 (Int.fdiv x (2 ^ (min (Int.toNat (w64 ((8 : Int) * (j : Int)))) (IntKind.bits .u64)))) = x / 256 ^ j % 256 := fun j hj => by rw [sh8 x j hj, IntKind.wrap_u8]
  refine ⟨_, (Z4 Z0r (.b1 x 0 _ z)).trans ((Z4 Z0r (.b1 x 1 _ _)).trans ((Z4 Z0r (.b1 x 2 _ _)).trans ((Z4 Z0r (.b1 x 3 _ _)).trans ((Z4 Z0r (.b1 x 4 _ _)).trans ((Z4 Z0r (.b1 x 5 _ _)).trans ((Z4 Z0r (.b1 x 6 _ _)).trans rfl)))))), ?_⟩
  refine Eq.trans (b := [x / 256 ^ 0 % 256, x / 256 ^ 1 % 256, x / 256 ^ 2 % 256, x / 256 ^ 3 % 256, x / 256 ^ 4 % 256, x / 256 ^ 5 % 256]) ?_ ?_
  · rw [← h 0 (by decide), ← h 1 (by decide), ← h 2 (by decide), ← h 3 (by decide), ← h 4 (by decide), ← h 5 (by decide)]
    rfl
  · simp only [num, Int.ediv_ediv_of_nonneg (show (0 : Int) ≤ 256 by decide)]
    simp [Int.ediv_ediv_of_nonneg]
def takeL : List Int → List Int → List Int
  | [], _ => []
  | n :: ns, b => val (b.take n.toNat) :: takeL ns (b.drop n.toNat)
def sumL (ns : List Int) : Nat := (ns.map Int.toNat).sum
theorem Zh1 (a b : List Int) : sumL (a ++ b) = sumL a + sumL b := by simp [sumL]
theorem take1 (b : List Int) (hb : Bytes b) (out sz : List Int) (n : Int) (m i : Nat) (L : Int) (hm : m ≤ 8) (hn : n = m) (hmb : m ≤ b.length) (ho : out.length ≤ 1000) (hi : i ≤ 1000) : ∀ d j : Nat, j + d = m →
    flow ZU (.b3 b out n (val (b.take j)) sz L i n j) = flow ZU (.b2 (b.drop m) (out ++ [val (b.take m)]) sz L ((i + 1 : Nat) : Int)) := by
  subst hn
  intro d
  induction d with
  | zero =>
    intro j hj
    obtain rfl : j = m := by omega
    refine (Z4 _ _).trans ?_
    have h1 : decide ((j : Int) ≤ (b.length : Int)) = true := decide_eq_true (by omega)
    have h2 : (b.drop j).take (b.length - j) = b.drop j := List.take_of_length_le (by rw [List.length_drop]; omega)
    simp (disch := omega) only [ZU, Int.lt_irrefl, h1, h2, Tr.den, flowJ, SL, SM]
  | succ d ih =>
    intro j hj
    have hj' : j < m := by omega
    have hjb : j < b.length := by omega
    have hx := hb.get j hjb
    have hv := Zuw (hb.take j)
    have hv2 := ZnO (hb.take (j + 1)) (by rw [List.length_take]; omega)
    have e : val (b.take (j + 1)) = val (b.take j) + 256 ^ j * b[j] := by
      rw [List.take_add_one, List.getElem?_eq_getElem hjb, val_append]
      simp [val, Nat.min_eq_left (show j ≤ b.length by omega)]
    rw [List.length_take, Nat.min_eq_left (by omega)] at hv
    rw [e] at hv2
    have hnn : 0 ≤ 256 ^ j * b[j] := Int.mul_nonneg (Int.le_of_lt (by exact_mod_cast Nat.pow_pos (by decide))) hx.1
    rw [← ih (j + 1) (by omega)]
    refine (Z4 _ _).trans ?_
    have h1 : decide (0 ≤ w64 (8 * (j : Int))) = true := decide_eq_true (by rw [Z0s (by omega) (by omega)]; omega)
    have h3 : bits .or .u64 (val (b.take j)) (IntKind.wrap .u64 ((IntKind.wrap .u64 (b[j])) * 2 ^ (min (Int.toNat (w64 ((8 : Int) * (j : Int)))) (IntKind.bits .u64)))) = val (b.take (j + 1)) := by
      rw [Z0s (by omega) (by omega), show Int.toNat (8 * (j : Int)) = 8 * j by omega, show min (8 * j) (IntKind.bits .u64) = 8 * j from Nat.min_eq_left (by show 8 * j ≤ 64; omega), pow8, wu64 (n := b[j]) (by omega) (by omega), Int.mul_comm b[j], wu64 hnn (by omega), e]
      refine or_lo .u64 64 (by decide) wraps_u64 (8 * j) (by omega) _ _ hnn ?_ (by show _ < (18446744073709551616 : Int); omega) hv.1 ?_
      · rw [pow8]; exact Int.mul_emod_right _ _
      · rw [pow8]; exact hv.2
    simp (disch := omega) only [ZU, hj', hjb, h1, h3, Tr.den, flowJ, SL, SM]
theorem take2 (sz : List Int) : ∀ (ns done b out : List Int), sz = done ++ ns → Bytes b → (∀ n ∈ ns, 1 ≤ n ∧ n ≤ 8) → sumL ns ≤ b.length → out.length = done.length → sz.length ≤ 100 → b.length ≤ 100000 →
    flow ZU (.b2 b out sz sz.length done.length) = some (out ++ takeL ns b, b.drop (sumL ns), 0) := by
  intro ns
  induction ns with
  | nil =>
    intro done b out hz hb hn hs ho hl hbl
    refine (Z4 _ _).trans ?_
    rw [List.append_nil] at hz
    subst hz
    simp only [ZU, Int.lt_irrefl, Tr.den, flowJ, SL, SM]
    rw [Zfw [b] (by simpa using hbl) (by simp)]
    simp [takeL, sumL]
  | cons n ns ih =>
    intro done b out hz hb hn hs ho hl hbl
    have hlt : done.length < sz.length := by rw [hz]; simp
    have hget : sz[done.length] = n := by simp [hz]
    have h1 := hn n List.mem_cons_self
    have hsum : sumL (n :: ns) = n.toNat + sumL ns := by simp [sumL]
    rw [hsum] at hs
    refine (Z4 _ _).trans ?_
    simp (disch := omega) only [ZU, hlt, hget, Tr.den, flowJ, SL, SM]
    have := take1 b hb out sz n n.toNat done.length sz.length (by omega) (by omega) (by omega) (by omega) (by omega) n.toNat 0 (by omega)
    simp only [List.take_zero, val] at this
    refine this.trans ?_
    have h2 := ih (done ++ [n]) (b.drop n.toNat) (out ++ [val (b.take n.toNat)]) (by simp [hz]) (hb.drop _) (fun m hm => hn m (List.mem_cons_of_mem _ hm)) (by rw [List.length_drop]; omega) (by simp [ho]) hl (by rw [List.length_drop]; omega)
    rw [List.length_append] at h2
    refine h2.trans ?_
    rw [hsum, takeL, List.drop_drop, List.append_assoc]
    rfl
theorem ZyP (sz b : List Int) (hb : Bytes b) (hn : ∀ n ∈ sz, 1 ≤ n ∧ n ≤ 8) (hs : sumL sz ≤ b.length) (hl : sz.length ≤ 100) (hbl : b.length ≤ 100000) : Z5c b sz = some (takeL sz b, b.drop (sumL sz), 0) := (Z4 _ _).trans (by
  simp only [ZU, Tr.den, flowJ, SL, SM]
  have key := Z5V (fun (s : Int) i => flow ZU (.b1 b sz s sz sz.length i)) sz (fun s x => s + x) (fun s => if (b.length : Int) < s then some ([], [], 3) else flow ZU (.b2 b [] sz sz.length 0))
    (fun i s => s = sumL (sz.take i)) (fun i s h hi => by
      have h1 := hn sz[i] (List.getElem_mem h)
      have e : sumL (sz.take (i + 1)) = sumL (sz.take i) + sz[i].toNat := by
        rw [List.take_add_one, List.getElem?_eq_getElem h, Zh1]
        rfl
      have e2 : sumL (sz.take (i + 1)) ≤ sumL sz := by
        have h2 := Zh1 (sz.take (i + 1)) (sz.drop (i + 1))
        rw [List.take_append_drop] at h2
        omega
      refine ⟨?_, by omega⟩
      refine (Z4 _ _).trans ?_
      simp (disch := omega) only [ZU, h, ZtB _ h1.1 h1.2, Tr.den, flowJ, SL, SM]
      rw [Z0s (by omega) (by omega)])
    (fun s hs' => (Z4 _ _).trans (by
      simp only [ZU, Int.lt_irrefl, Tr.den, flowJ, SL, SM]
      by_cases hc : (b.length : Int) < s
      · simp [hc]
      · simp [hc])) 0 (by simp [sumL])
  rw [key.1, key.2, List.take_length, if_neg (by omega)]
  exact take2 sz sz [] b [] rfl hb hn hs rfl hl hbl)
noncomputable def hidev (k : Zd) (iv : Int) (sealed : List Int) : List Int := num 6 (Z48 k.Hide (⟨#[104, 105, 100, 101]⟩ : ByteArray) [iv, val (sealed.take 7)])
def openv (p : Zc) : List Int := [ctl p] ++ num 3 p.Seq ++ num 2 p.Src
noncomputable def Z3l (k : Zd) (p : Zc) : List Int := sealv k.Encrypt (ZcD 0 p.Src p.Seq p.IV) [ctl p] (num 2 p.Dst ++ p.Payload)
noncomputable def encN (k : Zd) (p : Zc) : List Int := [p.NID + p.IV % 2 * 128] ++ xorv (openv p) (hidev k p.IV (Z3l k p)) ++ Z3l k p
noncomputable def encNv (k : Zd) (p : Zc) : List Int × Int := if checkN p = 0 then (if p.NID = k.NID then (encN k p, 0) else ([], 17)) else ([], checkN p)
structure PduRg (p : Zc) : Prop where
  iv : U32 p.IV
  seq : U32 p.Seq
  src : U16 p.Src
  dst : U16 p.Dst
theorem Z8n (k : Zd) (p : Zc) : (Z3l k p).length = p.Payload.length + 6 := by rw [Z3l, ZiA, List.length_append, ZH]; omega
theorem Zk4 {iv : Int} {s : List Int} (hi : U32 iv) (hs : Bytes s) : (∀ x ∈ [iv, val (s.take 7)], K64 x) ∧ IntKind.wrap .u64 iv = iv := by
  have h1 := hi.1
  have h2 := hi.2
  refine ⟨fun x hx => ?_, wu64 (by omega) (by omega)⟩
  simp only [List.mem_cons, List.not_mem_nil, or_false] at hx
  rcases hx with rfl | rfl
  · exact ⟨by omega, by omega⟩
  · exact ZnO (hs.take 7) (by rw [List.length_take]; omega)
theorem Zp5 (p : Zc) (h : NetOK p) (hr : PduRg p) : ∃ o, Z5p p = some o ∧ olist o = openv p := by
  refine ⟨_, (Z4 _ _).trans (by simp only [Z5M, Tr.den, flowJ, Z8M p h, Option.bind_some]; rfl), ?_⟩
  have e : ∀ a : Int, ∀ n : Nat, IntKind.wrap .u8 (Int.fdiv a (2 ^ n)) = a / 2 ^ n % 256 := fun a n => by rw [Int.fdiv_eq_ediv_of_nonneg _ (Int.le_of_lt (by exact_mod_cast Nat.pow_pos (by decide))), IntKind.wrap_u8]
  show [ctl p, _, _, _, _, _] = _
  simp only [e, IntKind.wrap_u8]
  simp only [openv, num, List.cons_append, List.nil_append]
  rw [Int.ediv_ediv_of_nonneg (by decide)]
  rfl
theorem ZkW (k : Zd) (iv : Int) (hi : U32 iv) (s : List Int) (hs : Bytes s) (hl : 7 ≤ s.length) (hl' : s.length ≤ 1000) : ∃ c, Z7C k iv s = some c ∧ olist c = hidev k iv s := by
  obtain ⟨hp, he⟩ := Zk4 hi hs
  obtain ⟨c, h1, h2⟩ := mask6 (Z48 k.Hide (⟨#[104, 105, 100, 101]⟩ : ByteArray) [iv, val (s.take 7)]) Z0h
  refine ⟨c, (Z4 _ _).trans ?_, h2⟩
  have ht : Z5c s [7] = some ([val (s.take 7)], s.drop 7, 0) := ZyP [7] s hs (fun n hn => by rw [List.mem_singleton.1 hn]; decide) (by simpa [sumL] using hl) (by simp) (by omega)
  simp only [Z0r, ht, he, Tr.den, flowJ, Option.bind_some, List.length_cons, List.length_nil, beq_self_eq_true, cond_true]
  rw [show decide ((0 : Int) ≤ 0 ∧ (0 : Int) < (((0 + 1 : Nat) : Nat) : Int)) = true from rfl, show ([val (s.take 7)])[Int.toNat 0]? = some (val (s.take 7)) from rfl]
  simp only [cond_true, Option.bind_some]
  rw [Z35 k.Hide (⟨#[104, 105, 100, 101]⟩ : ByteArray) [iv, val (s.take 7)] (by decide) hp (by simp)]
  exact h1
theorem and1 (x : Int) (h : U32 x) : bits .and .u32 x 1 = x % 2 := bits_mask .u32 32 (by decide) wraps_u32 1 (by decide) x h.1 h.2
theorem headB (nid iv : Int) (h : 0 ≤ nid ∧ nid ≤ 127) (hi : U32 iv) : bits .or .u8 (IntKind.wrap .u8 nid) (IntKind.wrap .u8 ((IntKind.wrap .u8 (bits .and .u32 iv 1)) * 2 ^ (7 : Nat))) = nid + iv % 2 * 128 := by
  have := hi.1
  rw [and1 iv hi, wu8 (n := nid) (by omega) (by omega), wu8 (n := iv % 2) (by omega) (by omega), show (2 : Int) ^ (7 : Nat) = 128 from rfl, wu8 (by omega) (by omega)]
  exact or_lo .u8 8 (by decide) wraps_u8 7 (by decide) nid (iv % 2 * 128) (by omega) (by show iv % 2 * 128 % 128 = 0; omega) (by show _ < (256 : Int); omega) h.1 (by show nid < 128; omega)
theorem bne0 (x : Int) : (x != 0) = !decide (x = 0) := by cases h : decide (x = 0) <;> simp_all
theorem Zh9 (k : Zd) (p : Zc) (hr : PduRg p) : Z5r k p = some (encNv k p) := (Z4 _ _).trans (by
  simp only [Z5W, Zja, bne0, Tr.den, flowJ, Option.bind_some, encNv]
  by_cases hc : checkN p = 0
  · have hn := Zik hc
    simp only [hc, decide_true, Bool.not_true, cond_false, if_true]
    by_cases hk : p.NID = k.NID
    · rw [show (p.NID != k.NID) = false by simp [hk], if_pos hk]
      have hl := Z8n k p
      have hlen := hn.len
      obtain ⟨o, ho, ho'⟩ := Zp5 p hn hr
      obtain ⟨c, hm, hm'⟩ := ZkW k p.IV hr.iv (Z3l k p) (ZhJ _ _ _ _) (by omega) (by omega)
      obtain ⟨x, hx, hx'⟩ := ZvD o c
      have hseal : Z7h k.Encrypt (ZcD 0 p.Src p.Seq p.IV) [ctl p] (num 2 p.Dst ++ p.Payload) = some (Z3l k p) := Zkn _ _ (Zd1 _ _ _ _) _ _ (Bytes.cons (Zxd hn) Bytes.nil) (by simp) (by rw [List.length_append, ZH]; omega)
      have hj : Zy [num 2 p.Dst, p.Payload] = some (num 2 p.Dst ++ p.Payload) := by rw [Zfw _ (by simp [ZH]; omega) (by simp)]; simp
      have hj2 : Zy [[p.NID + p.IV % 2 * 128], List.take 6 [x.x0, x.x1, x.x2, x.x3, x.x4, x.x5], Z3l k p] = some (encN k p) := by
        have e6 : List.take 6 [x.x0, x.x1, x.x2, x.x3, x.x4, x.x5] = olist x := rfl
        rw [e6, Zfw _ (by simp [olist, hl]; omega) (by simp)]
        simp [encN, hx', ho', hm']
      simp only [cond_false, two16 hr.dst, ZH, List.length_cons, List.length_nil, beq_self_eq_true, cond_true, hj, Option.bind_some, Z9u (kind := 0) ⟨by decide, by decide⟩ hr.src hr.seq hr.iv, Z8M p hn, hseal, ho, hm, hx, headB p.NID p.IV hn.nid hr.iv, hj2]
    · rw [show (p.NID != k.NID) = true by simp [hk], if_neg hk]
      rfl
  · rw [if_neg hc, decide_eq_false hc]
    rfl)
structure KeyRg (k : Zd) : Prop where
  enc : K64 k.Encrypt
  hide : K64 k.Hide
theorem Zo4 (k : Zd) (hk64 : KeyRg k) (p : Zc) (hr : PduRg p) : Z9A k p = some (encNv k p) := (Z4 _ _).trans (by
  simp only [Z9x, Zp7, bne0, Tr.den, flowJ, Option.bind_some, encNv]
  by_cases hc : checkN p = 0
  · have hn := Zik hc
    simp only [hc, decide_true, Bool.not_true, cond_false, if_true]
    by_cases hk : p.NID = k.NID
    · rw [show (p.NID != k.NID) = false by simp [hk], if_pos hk]
      have hl := Z8n k p
      have hlen := hn.len
      have hnid := hn.nid
      have d1 := hr.dst.1; have d2 := hr.dst.2; have s1 := hr.src.1; have s2 := hr.src.2; have q1 := hr.seq.1; have q2 := hr.seq.2; have i1 := hr.iv.1
      have hseal : Z7B k.Encrypt (ZcD 0 p.Src p.Seq p.IV) [ctl p] (num 2 p.Dst ++ p.Payload) = some (Z3l k p) := ZjU _ hk64.enc _ (Zd1 _ _ _ _) _ _ (Bytes.cons (Zxd hn) Bytes.nil) (by simp) (by rw [List.length_append, ZH]; omega)
      have n2 : ZG 2 p.Dst = some ⟨num 2 p.Dst⟩ := v_Num 2 (by decide) _ ⟨by omega, by omega⟩
      have n3 : ZG 3 p.Seq = some ⟨num 3 p.Seq⟩ := v_Num 3 (by decide) _ ⟨by omega, by omega⟩
      have n4 : ZG 2 p.Src = some ⟨num 2 p.Src⟩ := v_Num 2 (by decide) _ ⟨by omega, by omega⟩
      have hb : Bytes (Z3l k p) := ZhJ _ _ _ _
      obtain ⟨hp, he⟩ := Zk4 hr.iv hb
      have hh : ZdQ k p.IV (openv p) (Z3l k p) = some (xorv (openv p) (hidev k p.IV (Z3l k p))) := (Z4 _ _).trans (by
        have n6 : ∀ x, K64 x → ZG 6 x = some ⟨num 6 x⟩ := fun x hx => v_Num 6 (by decide) _ hx
        have h7 : decide ((0 : Int) ≤ 7 ∧ (7 : Int) ≤ ((Z3l k p).length : Int)) = true := decide_eq_true ⟨by decide, by omega⟩
        simp only [Zey, Tr.den, flowJ, h7, cond_true, List.drop_zero, show Int.toNat 7 - 0 = 7 from rfl]
        rw [Zv1 _ (hb.take 7) (by rw [List.length_take]; omega)]
        simp only [Option.bind_some, he, List.length_cons, List.length_nil, beq_self_eq_true, cond_true]
        rw [Zfm k.Hide hk64.hide (⟨#[104, 105, 100, 101]⟩ : ByteArray) [p.IV, val ((Z3l k p).take 7)] (by decide) hp (by simp)]
        simp only [Option.bind_some, n6 _ (Z5l _ _ _), beq_self_eq_true, cond_true, ZH]
        rw [ZrL (openv p) _ (by simp [openv, ZH])]
        simp only [Option.bind_some, beq_self_eq_true, cond_true, hidev])
      have hx : (xorv (openv p) (hidev k p.IV (Z3l k p))).length = 6 := by rw [Z4h]; simp [openv, hidev, ZH]
      have e128 : IntKind.wrap .u8 (IntKind.wrap .u32 (IntKind.wrap .u32 p.NID + IntKind.wrap .u32 (p.IV.tmod 2 * 128))) = p.NID + p.IV % 2 * 128 := by
        rw [Int.tmod_eq_emod_of_nonneg i1, wu32 (n := p.NID) (by omega) (by omega), wu32 (n := p.IV % 2 * 128) (by omega) (by omega), wu32 (by omega) (by omega), wu8 (by omega) (by omega)]
      simp (disch := omega) only [wu64 (n := p.Dst) (by omega) (by omega), wu64 (n := p.Seq) (by omega) (by omega), wu64 (n := p.Src) (by omega) (by omega), n2, n3, n4, cond_false, cond_true, Option.bind_some, beq_self_eq_true, ZH, Zn1, ZbL (kind := 0) ⟨by decide, by decide⟩ hr.src hr.seq hr.iv, ZlH p hn, List.length_cons, List.length_nil, hseal, List.length_append, Nat.zero_add]
      have ho : [ctl p] ++ num 3 p.Seq ++ num 2 p.Src = openv p := rfl
      rw [ho, hh]
      simp (disch := omega) only [Option.bind_some, hx, hl, Zn1, cond_true, beq_self_eq_true, e128, encN]
    · rw [show (p.NID != k.NID) = true by simp [hk], if_neg hk]
      rfl
  · rw [if_neg hc, decide_eq_false hc]
    rfl)
end Go.Proofs.YtefmbgacbhifdaaGreat
namespace Go.Proofs.YtefmbgacbhifdaaGreat
open Go Go.Proofs.YtefmbgacbhifdaaGreat.Le
set_option maxRecDepth 100000
def Z6b (l : Z5) : Bool :=
  bif l.Control then
    (bif l.Opcode == 0 then !l.Segmented && (!l.App && ((l.Index == 0) && (l.Last == 0)))
     else !l.Segmented && (!l.App && ((l.Zero == 0) && ((l.Index == 0) && ((l.Last == 0) && ((l.Block == 0) && !l.Friend))))))
  else bif l.Segmented then (l.Opcode == 0) && ((l.Block == 0) && !l.Friend)
  else (l.Opcode == 0) && ((l.Zero == 0) && ((l.Index == 0) && ((l.Last == 0) && ((l.Block == 0) && !l.Friend))))
def isAck (l : Z5) : Bool := l.Control && (l.Opcode == 0)
theorem Z7A (l : Z5) : Z2q l = some (isAck l) := (Z4 _ _).trans (by simp only [Z3O, Tr.den, flowJ, Z9k, isAck])
def restB (l : Z5) : Bool := Z6b l && (!isAck l || decide (l.Bytes = []))
theorem Zg2 (l : Z5) : Z4S l = some (restB l) := (Z4 _ _).trans (by
  simp only [Z4H, Z7A, Tr.den, flowJ, Z9k, len0, Option.bind_some, restB, Z6b, isAck]
  cases l.Control <;> cases l.Opcode == 0 <;> cases l.Segmented <;> simp [Bool.and_assoc])
def Zbi (lo hi : Int) (l : Z5) : Int := if (l.Bytes.length : Int) < lo then 1 else if (l.Bytes.length : Int) > hi then 4 else 0
def ZaW (l : Z5) (x : Int) : Int := if l.Zero < 0 then 5 else if l.Zero ≥ 8192 then 5 else if l.Last < 0 then 5 else if l.Last ≥ 32 then 5 else if l.Index < 0 then 5 else if l.Index > l.Last then 5 else x
def Z7Q (lo hi : Int) (l : Z5) : Int := if restB l = false then 1 else ZaW l (Zbi lo hi l)
def Z6D (lo hi : Int) (l : Z5) : Int := if l.Control = true then (if l.Opcode < 0 then 12 else if l.Opcode ≥ 9 then 12 else Z7Q lo hi l) else Z7Q lo hi l
def Z8E (l : Z5) : Int := if l.Control = true then Z6D 0 15 l else if l.Segmented = true then (if l.Index < l.Last then Z6D 12 12 l else Z6D 1 12 l) else Z6D 1 15 l
theorem ZgJ {α : Type} (b : Bool) (x y : α) : cond b x y = if b = true then x else y := by cases b <;> rfl
theorem ZeI (l : Z5) : Z3N l = some (Z8E l) := by
  have h3 : ∀ lo hi, flow Z0b (.b3 lo hi l) = some (Zbi lo hi l) := fun lo hi => (Z4 _ _).trans (by simp only [Z0b, Tr.den, flowJ, Bool.cond_decide, Z1l, Zbi])
  have h2 : ∀ lo hi, flow Z0b (.b2 lo hi l) = some (Z7Q lo hi l) := fun lo hi => (Z4 _ _).trans (by
    simp only [Z0b, Tr.den, flowJ, Zg2, Option.bind_some, h3, Bool.cond_decide, Z1l, Z7Q, ZaW]
    cases restB l <;> simp)
  have h1 : ∀ lo hi, flow Z0b (.b1 lo hi l) = some (Z6D lo hi l) := fun lo hi => (Z4 _ _).trans (by simp only [Z0b, Tr.den, flowJ, h2, Bool.cond_decide, ZgJ, Z1l, decide_eq_true_eq, Z6D])
  refine (Z4 _ _).trans ?_
  simp only [Z0b, Tr.den, flowJ, h1, Bool.cond_decide, ZgJ, Z1l, decide_eq_true_eq, Z8E]
def usedv (l : Z5) : Z5 :=
  bif l.Control then (bif l.Opcode == 0 then ⟨true, false, false, l.Zero, 0, 0, 0, l.Block, l.Friend, []⟩ else ⟨true, false, false, 0, 0, 0, l.Opcode, 0, false, []⟩)
  else bif l.Segmented then ⟨false, true, l.App, l.Zero, l.Index, l.Last, 0, 0, false, []⟩ else ⟨false, false, l.App, 0, 0, 0, 0, 0, false, []⟩
theorem ZrV (l : Z5) : Zet l = some (usedv l) := (Z4 _ _).trans (by
  have h1 : ∀ z, flow Z5m (.b1 l z) = some ⟨true, false, false, l.Zero, 0, 0, 0, l.Block, l.Friend, []⟩ := fun z => (Z4 _ _).trans rfl
  have h2 : ∀ z, flow Z5m (.b2 l z) = some (bif l.Control then ⟨true, false, false, 0, 0, 0, l.Opcode, 0, false, []⟩ else bif l.Segmented then ⟨false, true, l.App, l.Zero, l.Index, l.Last, 0, 0, false, []⟩ else ⟨false, false, l.App, 0, 0, 0, 0, 0, false, []⟩) := fun z => (Z4 _ _).trans (by
    simp only [Z5m, Tr.den, flowJ]
    cases l.Control <;> cases l.Segmented <;> rfl)
  simp only [Z5m, Tr.den, flowJ, h1, h2, usedv]
  cases l.Control <;> cases l.Opcode == 0 <;> rfl)
theorem Zjs (l : Z5) : Z70 l (usedv l) = some (Z6b l) := (Z4 _ _).trans (by
  simp only [Z6N, Tr.den, flowJ, Z9k, usedv, Z6b]
  cases hc : l.Control <;> cases ho : l.Opcode == 0 <;> cases hs : l.Segmented <;> simp_all)
theorem Zfb {l : Z5} (h : Z6b l = true) (hs : l.Segmented = false ∨ l.Control = true) : l.Index = 0 ∧ l.Last = 0 ∧ l.Segmented = false := by
  unfold Z6b at h
  cases hc : l.Control <;> cases ho : l.Opcode == 0 <;> cases hs : l.Segmented <;> simp_all
def chk3R (l : Z5) : Int := if l.Control = false ∧ l.Bytes = [] then 1 else if l.Index < l.Last ∧ (l.Bytes.length : Int) < 12 then 1 else if (l.Bytes.length : Int) > 15 then 4 else if l.Segmented = true then (if (l.Bytes.length : Int) > 12 then 4 else 0) else 0
theorem Zy8 (l : Z5) (hh : Z6b l = true) (lo hi : Int) (k1 : l.Control = true → lo = 0 ∧ hi = 15) (k2 : l.Control = false → l.Segmented = false → lo = 1 ∧ hi = 15) (k3 : l.Control = false → l.Segmented = true → hi = 12 ∧ (lo = if l.Index < l.Last then 12 else 1)) : chk3R l = Zbi lo hi l := by
  have hl : l.Bytes = [] ↔ (l.Bytes.length : Int) = 0 := by
    cases l.Bytes with
    | nil => simp
    | cons a b => simp; omega
  have hnn : (0 : Int) ≤ l.Bytes.length := by omega
  have hp1 := fun h => Zfb hh (.inl h)
  have hp2 := fun h => Zfb hh (.inr h)
  unfold chk3R Zbi
  simp only [hl]
  clear hl hh
  generalize (l.Bytes.length : Int) = n at *
  generalize l.Index = I at *
  generalize l.Last = L at *
  cases hc : l.Control with
  | true =>
    obtain ⟨rfl, rfl⟩ := k1 hc
    obtain ⟨rfl, rfl, e3⟩ := hp2 hc
    rw [e3]
    clear k1 k2 k3 hp1 hp2
    simp
    repeat' split
    all_goals omega
  | false =>
    cases hs : l.Segmented with
    | false =>
      obtain ⟨rfl, rfl⟩ := k2 hc hs
      obtain ⟨rfl, rfl, e3⟩ := hp1 hs
      clear k1 k2 k3 hp1 hp2
      simp
      repeat' split
      all_goals omega
    | true =>
      obtain ⟨rfl, rfl⟩ := k3 hc hs
      clear k1 k2 k3 hp1 hp2
      simp
      repeat' split
      all_goals omega
def ZqT (l : Z5) : Int := bif !Z6b l then 1 else bif isAck l && !decide (l.Bytes = []) then 1 else ZaW l (chk3R l)
theorem Zdv (l : Z5) (lo hi : Int) (k1 : l.Control = true → lo = 0 ∧ hi = 15) (k2 : l.Control = false → l.Segmented = false → lo = 1 ∧ hi = 15) (k3 : l.Control = false → l.Segmented = true → hi = 12 ∧ (lo = if l.Index < l.Last then 12 else 1)) : ZqT l = Z7Q lo hi l := by
  unfold ZqT Z7Q restB
  cases hh : Z6b l with
  | false => simp
  | true =>
    rw [Zy8 l hh lo hi k1 k2 k3]
    generalize ZaW l _ = R
    cases isAck l <;> by_cases hb : l.Bytes = [] <;> simp [hb]
theorem Zqf (l : Z5) : ZbP l = some (Z8E l) := by
  have h4 : ∀ n, flow Z0S (.b4 n l) = some (if n > 15 then 4 else if l.Segmented = true then (if n > 12 then 4 else 0) else 0) := fun n => (Z4 _ _).trans (by simp only [Z0S, Tr.den, flowJ, Bool.cond_decide, ZgJ, Z1l, decide_eq_true_eq])
  have h3 : flow Z0S (.b3 l.Bytes.length l) = some (chk3R l) := (Z4 _ _).trans (by
    simp only [Z0S, Tr.den, flowJ, h4, len0, chk3R]
    cases l.Control <;> by_cases hb : l.Bytes = [] <;> by_cases hi : l.Index < l.Last <;> by_cases hn : (l.Bytes.length : Int) < 12 <;> simp [hb, hi, hn])
  have h2 : flow Z0S (.b2 l.Bytes.length l) = some (ZaW l (chk3R l)) := (Z4 _ _).trans (by
    simp only [Z0S, Tr.den, flowJ, h3, Bool.cond_decide, Z1l, ZaW, show (l.Zero > 8191) = (l.Zero ≥ 8192) from propext (by omega), show (l.Last > 31) = (l.Last ≥ 32) from propext (by omega)])
  have h1 : flow Z0S (.b1 l.Bytes.length l) = some (ZqT l) := (Z4 _ _).trans (by
    simp only [Z0S, Tr.den, flowJ, ZrV, Zjs, Option.bind_some, h2, isAck, ZqT]
    have hp : decide ((l.Bytes.length : Int) > 0) = !decide (l.Bytes = []) := by
      cases l.Bytes with
      | nil => rfl
      | cons a b => simp
    rw [hp]
    generalize ZaW l _ = R
    cases Z6b l <;> cases l.Control <;> cases l.Opcode == 0 <;> by_cases hb : l.Bytes = [] <;> simp [hb])
  refine (Z4 _ _).trans ?_
  simp only [Z0S, Tr.den, flowJ, h1, Bool.cond_decide, ZgJ, Z1l, decide_eq_true_eq, Z8E, Z6D, show (l.Opcode > 8) = (l.Opcode ≥ 9) from propext (by omega)]
  congr 1
  by_cases hc : l.Control = true
  · rw [if_pos hc, if_pos hc, if_pos hc, Zdv l 0 15 (fun _ => ⟨rfl, rfl⟩) (fun h => by rw [hc] at h; cases h) (fun h => by rw [hc] at h; cases h)]
  · simp only [if_neg hc]
    by_cases hs : l.Segmented = true
    · rw [if_pos hs]
      by_cases hi : l.Index < l.Last
      · rw [if_pos hi, Zdv l 12 12 (fun h => absurd h hc) (fun _ h => by rw [hs] at h; cases h) (fun _ _ => ⟨rfl, by rw [if_pos hi]⟩)]
      · rw [if_neg hi, Zdv l 1 12 (fun h => absurd h hc) (fun _ h => by rw [hs] at h; cases h) (fun _ _ => ⟨rfl, by rw [if_neg hi]⟩)]
    · rw [if_neg hs, Zdv l 1 15 (fun h => absurd h hc) (fun _ _ => ⟨rfl, rfl⟩) (fun _ h => absurd h hs)]
structure LowOK (l : Z5) : Prop where
  zero : 0 ≤ l.Zero ∧ l.Zero ≤ 8191
  last : 0 ≤ l.Last ∧ l.Last ≤ 31
  index : 0 ≤ l.Index ∧ l.Index ≤ l.Last
  len : l.Bytes.length ≤ 15
  op : l.Control = true → 0 ≤ l.Opcode ∧ l.Opcode ≤ 8
  head : Z6b l = true
theorem Ztr {l : Z5} {x : Int} (h : ZaW l x = 0) : (0 ≤ l.Zero ∧ l.Zero ≤ 8191) ∧ (0 ≤ l.Last ∧ l.Last ≤ 31) ∧ (0 ≤ l.Index ∧ l.Index ≤ l.Last) ∧ x = 0 := by
  unfold ZaW at h
  repeat' split at h
  all_goals first | (exfalso; revert h; decide) | skip
  exact ⟨by omega, by omega, by omega, h⟩
theorem Zkz {lo hi : Int} {l : Z5} (h : Z7Q lo hi l = 0) (hhi : hi ≤ 15) : (0 ≤ l.Zero ∧ l.Zero ≤ 8191) ∧ (0 ≤ l.Last ∧ l.Last ≤ 31) ∧ (0 ≤ l.Index ∧ l.Index ≤ l.Last) ∧ l.Bytes.length ≤ 15 ∧ Z6b l = true := by
  unfold Z7Q at h
  split at h
  · cases h
  · rename_i hr
    obtain ⟨h1, h2, h3, h4⟩ := Ztr h
    refine ⟨h1, h2, h3, ?_, ?_⟩
    · unfold Zbi at h4
      repeat' split at h4
      · cases h4
      · cases h4
      · omega
    · cases hh : Z6b l with
      | true => rfl
      | false => simp [restB, hh] at hr
theorem Znz {l : Z5} (h : Z8E l = 0) : LowOK l := by
  have key : ∀ lo hi, hi ≤ 15 → Z6D lo hi l = 0 → LowOK l := fun lo hi hhi h => by
    unfold Z6D at h
    split at h
    · rename_i hc
      split at h
      · cases h
      · split at h
        · cases h
        · obtain ⟨h1, h2, h3, h4, h5⟩ := Zkz h hhi
          exact ⟨h1, h2, h3, h4, fun _ => by omega, h5⟩
    · rename_i hc
      obtain ⟨h1, h2, h3, h4, h5⟩ := Zkz h hhi
      exact ⟨h1, h2, h3, h4, fun h => absurd h hc, h5⟩
  unfold Z8E at h
  repeat' split at h
  · exact key _ _ (by decide) h
  · exact key _ _ (by decide) h
  · exact key _ _ (by decide) h
  · exact key _ _ (by decide) h
def encT (l : Z5) : List Int :=
  if isAck l = true then num 1 0 ++ num 2 (l.Zero + (if l.Friend = true then 8192 else 0)) ++ num 4 l.Block ++ l.Bytes
  else if l.Control = true then num 1 l.Opcode ++ l.Bytes
  else if l.Segmented = true then num 1 (128 + if l.App = true then 64 else 0) ++ num 3 (l.Zero + l.Index * 8192 + l.Last * 262144) ++ l.Bytes
  else num 1 (if l.App = true then 64 else 0) ++ l.Bytes
def encTv (l : Z5) : List Int × Int := if Z8E l = 0 then (encT l, 0) else ([], Z8E l)
theorem Zg5 (b : Bool) (n : Int) : Z1P b n = some (if b = true then n else 0) := (Z4 _ _).trans (by cases b <;> rfl)
theorem ZmI (b : Bool) (n : Int) : Za4 b n = some (if b = true then n else 0) := (Z4 _ _).trans (by cases b <;> rfl)
theorem ZlX (b : Bool) (n : Int) (h : 0 ≤ n) : 0 ≤ (if b = true then n else 0) ∧ (if b = true then n else 0) ≤ n := by split <;> omega
def FOK (f : Zf) : Prop := 1 ≤ f.Size ∧ f.Size ≤ 8 ∧ 0 ≤ f.Value ∧ f.Value < 256 ^ f.Size.toNat
theorem fok {s v : Int} (n : Nat) (hs : s = n) (h1 : 1 ≤ n) (h8 : n ≤ 8) (h0 : 0 ≤ v) (hv : v < 256 ^ n) : FOK ⟨s, v⟩ := by
  subst hs
  exact ⟨show (1 : Int) ≤ (n : Int) by omega, show (n : Int) ≤ 8 by omega, h0, by show v < 256 ^ Int.toNat (n : Int); rw [Int.toNat_natCast]; exact hv⟩
theorem fok1 {f : Zf} (h : FOK f) : ∀ x ∈ [f], FOK x := fun x hx => by rw [List.mem_singleton.1 hx]; exact h
theorem fokc {f : Zf} {l : List Zf} (h : FOK f) (hl : ∀ x ∈ l, FOK x) : ∀ x ∈ f :: l, FOK x := fun x hx => by
  rcases List.mem_cons.1 hx with rfl | hx
  · exact h
  · exact hl x hx
theorem Zah (fs : List Zf) (bs : List Int) (hf : ∀ f ∈ fs, FOK f) (hl : (fs.flatMap Z3A).length ≤ 1000) (hn : fs.length ≤ 1000) (hb : bs.length ≤ 1000) :
    (Z1I fs).bind (fun x1 => (Zy [x1.1, bs]).bind fun x2 => some (x2, (0 : Int))) = some (fs.flatMap Z3A ++ bs, 0) := by
  rw [v_Put fs hf hl hn, Option.bind_some]
  show (Zy [fs.flatMap Z3A, bs]).bind _ = _
  rw [Zfw _ (by rw [List.flatten_cons, List.flatten_cons, List.flatten_nil, List.append_nil, List.length_append]; omega) (by simp)]
  simp
theorem Zd8 (l : Z5) (hblk : U32 l.Block) : Z3a l = some (encTv l) := (Z4 _ _).trans (by
  simp only [Z19, ZeI, Z7A, Zg5, bne0, Tr.den, flowJ, Option.bind_some, encTv]
  by_cases hc : Z8E l = 0
  · have h := Znz hc
    have h1 := h.zero; have h2 := h.last; have h3 := h.index; have h4 := h.len; have h5 := hblk.1; have h6 := hblk.2
    have b1 : ∀ fs : List Zf, flow Z19 (.b1 fs l) = (Z1I fs).bind (fun x1 => (Zy [x1.1, l.Bytes]).bind fun x2 => some (x2, (0 : Int))) := fun fs => (Z4 _ _).trans (by
      simp only [Z19, Tr.den, flowJ, beq_self_eq_true, cond_true, List.length_cons, List.length_nil]
      rfl)
    simp only [hc, decide_true, Bool.not_true, cond_false, if_true, b1, List.length_cons, List.length_nil, beq_self_eq_true, cond_true]
    have f1 := ZlX l.Friend 8192 (by decide)
    have f2 := ZlX l.App 64 (by decide)
    unfold encT
    cases ha : isAck l with
    | true =>
      simp only [cond_true, if_true]
      rw [wu64 (n := l.Zero) (by omega) (by omega), wu64 (n := l.Zero + _) (by omega) (by omega), wu64 (n := l.Block) (by omega) (by omega)]
      rw [Zah _ _ (fokc (fok (s := 1) 1 rfl (by decide) (by decide) (by decide) (by decide)) (fokc (fok (s := 2) 2 rfl (by decide) (by decide) (by omega) (by show _ < (65536 : Int); omega)) (fok1 (fok (s := 4) 4 rfl (by decide) (by decide) h5 h6)))) (by simp [Z3A, ZH]) (by simp) (by omega)]
      simp [Z3A, List.append_assoc]
    | false =>
      simp only [cond_false, Bool.false_eq_true, if_false]
      cases hcn : l.Control with
      | true =>
        have h7 := h.op hcn
        simp only [cond_true, if_true]
        rw [wu64 (n := l.Opcode) (by omega) (by omega), Zah _ _ (fok1 (fok (s := 1) 1 rfl (by decide) (by decide) h7.1 (by show _ < (256 : Int); omega))) (by simp [Z3A, ZH]) (by simp) (by omega)]
        simp [Z3A]
      | false =>
        simp only [cond_false, Bool.false_eq_true, if_false]
        cases hs : l.Segmented with
        | true =>
          simp only [cond_true, if_true]
          rw [wu64 (n := 128 + _) (by omega) (by omega), Z0s (n := l.Index * 8192) (by omega) (by omega), Z0s (n := l.Last * 8192) (by omega) (by omega), Z0s (n := l.Zero + l.Index * 8192) (by omega) (by omega), Z0s (n := l.Last * 8192 * 32) (by omega) (by omega), Z0s (n := l.Zero + l.Index * 8192 + l.Last * 8192 * 32) (by omega) (by omega), wu64 (n := l.Zero + l.Index * 8192 + l.Last * 8192 * 32) (by omega) (by omega)]
          rw [Zah _ _ (fokc (fok (s := 1) 1 rfl (by decide) (by decide) (by omega) (by show _ < (256 : Int); omega)) (fok1 (fok (s := 3) 3 rfl (by decide) (by decide) (by omega) (by show _ < (16777216 : Int); omega)))) (by simp [Z3A, ZH]) (by simp) (by omega)]
          rw [show l.Last * 8192 * 32 = l.Last * 262144 by omega]
          simp [Z3A, List.append_assoc]
        | false =>
          simp only [cond_false, Bool.false_eq_true, if_false]
          rw [Zah _ _ (fok1 (fok (s := 1) 1 rfl (by decide) (by decide) f2.1 (by show _ < (256 : Int); omega))) (by simp [Z3A, ZH]) (by simp) (by omega)]
          simp [Z3A]
  · rw [if_neg hc, decide_eq_false hc]
    rfl)
theorem num1 (x : Int) (h : 0 ≤ x) (h' : x < 256) : num 1 x = [x] := by simp only [num]; rw [Int.emod_eq_of_lt h h']
theorem ZmZ (l : Z5) (hblk : U32 l.Block) : Z92 l = some (encTv l) := (Z4 _ _).trans (by
  simp only [Z1c, Zqf, bne0, Tr.den, flowJ, Option.bind_some, encTv]
  by_cases hc : Z8E l = 0
  · have h := Znz hc
    have h1 := h.zero; have h2 := h.last; have h3 := h.index; have h4 := h.len; have h5 := hblk.1; have h6 := hblk.2
    have f1 := ZlX l.Friend 8192 (by decide)
    have f2 := ZlX l.App 64 (by decide)
    have b3 : ∀ xs : List Int, xs.length ≤ 100 → flow Z1c (.b3 xs l) = some (xs ++ l.Bytes, 0) := fun xs hx => (Z4 _ _).trans (by
      simp (disch := omega) only [Z1c, Tr.den, flowJ, SL, SM])
    have n2 : ZG 2 (l.Zero + if l.Friend = true then 8192 else 0) = some ⟨num 2 (l.Zero + if l.Friend = true then 8192 else 0)⟩ := v_Num 2 (by decide) _ ⟨by omega, by omega⟩
    have n4 : ZG 4 l.Block = some ⟨num 4 l.Block⟩ := v_Num 4 (by decide) _ ⟨by omega, by omega⟩
    have n3 : ZG 3 (l.Zero + l.Index * 8192 + l.Last * 262144) = some ⟨num 3 (l.Zero + l.Index * 8192 + l.Last * 262144)⟩ := v_Num 3 (by decide) _ ⟨by omega, by omega⟩
    have b1 : ∀ x : Int, flow Z1c (.b1 [x] l) = some ([x] ++ num 2 (l.Zero + if l.Friend = true then 8192 else 0) ++ num 4 l.Block ++ l.Bytes, 0) := fun x => (Z4 _ _).trans (by
      simp only [Z1c, ZmI, Tr.den, flowJ, Option.bind_some]
      rw [Z0s (n := l.Zero + _) (by omega) (by omega), wu64 (n := l.Zero + _) (by omega) (by omega), wu64 (n := l.Block) (by omega) (by omega)]
      simp (disch := omega) only [n2, n4, ZH, Tr.den, flowJ, SL, SM]
      rw [b3 _ (by simp [ZH])])
    have b2 : ∀ x : Int, flow Z1c (.b2 [x] l) = some ((if l.Segmented = true then num 1 (128 + if l.App = true then 64 else 0) ++ num 3 (l.Zero + l.Index * 8192 + l.Last * 262144) else if l.Control = false then num 1 (if l.App = true then 64 else 0) else [x]) ++ l.Bytes, 0) := fun x => (Z4 _ _).trans (by
      simp only [Z1c, ZmI, Tr.den, flowJ, Option.bind_some]
      rw [Z0s (n := l.Index * 8192) (by omega) (by omega), Z0s (n := l.Last * 262144) (by omega) (by omega), Z0s (n := l.Zero + l.Index * 8192) (by omega) (by omega), Z0s (n := l.Zero + l.Index * 8192 + l.Last * 262144) (by omega) (by omega), wu64 (n := l.Zero + l.Index * 8192 + l.Last * 262144) (by omega) (by omega), Z0s (n := 128 + _) (by omega) (by omega), wu8 (n := 128 + _) (by omega) (by omega), wu8 (by omega) (by omega), num1 (128 + _) (by omega) (by omega), num1 (if l.App = true then 64 else 0) (by omega) (by omega)]
      have e0 : decide ((0 : Int) ≤ 0 ∧ (0 : Int) < (([x] : List Int).length : Int)) = true := rfl
      have e1 : ([x] : List Int)[Int.toNat 0]? = some x := rfl
      have e2 : ∀ y, ([x] : List Int).set (Int.toNat 0) y = [y] := fun y => rfl
      simp only [e0, e1, e2, n3, ZH]
      cases l.Segmented with
      | true =>
        simp (disch := omega) only [cond_true, decide_true, Int.toNat_zero, Nat.zero_le, Bool.and_true, beq_self_eq_true, List.length_cons, List.length_nil, Option.bind_some, ZH, Zn1, if_true]
        rw [b3 _ (by simp [ZH])]
      | false =>
        cases l.Control with
        | true =>
          simp only [cond_false, Bool.not_true, Bool.false_eq_true, if_false, Bool.true_eq_false, beq_self_eq_true, cond_true]
          rw [b3 _ (by simp)]
        | false =>
          simp (disch := omega) only [cond_true, cond_false, Bool.not_false, Bool.false_eq_true, if_false, if_true, decide_true, Int.toNat_zero, Nat.zero_le, Bool.and_true, beq_self_eq_true, List.length_cons, List.length_nil, Option.bind_some]
          rw [b3 _ (by simp)])
    simp only [hc, decide_true, Bool.not_true, cond_false, if_true, b1, b2, List.length_cons, List.length_nil, beq_self_eq_true, cond_true]
    have hh := h.head
    unfold encT isAck
    cases hcn : l.Control with
    | true =>
      have h7 := h.op hcn
      have hs := (Zfb hh (.inr hcn)).2.2
      rw [wu8 (n := l.Opcode) (by omega) (by omega), num1 l.Opcode (by omega) (by omega)]
      by_cases ho : l.Opcode = 0
      · simp [ho, num]
      · have hob : (l.Opcode == 0) = false := by simpa using ho
        simp [hob, hs]
    | false => cases hs : l.Segmented <;> simp
  · rw [if_neg hc, decide_eq_false hc]
    rfl)
end Go.Proofs.YtefmbgacbhifdaaGreat
namespace Go.Proofs.YtefmbgacbhifdaaGreat
open Go Go.Proofs.YtefmbgacbhifdaaGreat.Le
set_option maxRecDepth 100000
structure Z9i (l : List (List Int)) : Prop where
  len : l.length ≤ 1000
  each : ∀ p ∈ l, p.length ≤ 10000
structure TOK (t : Z7) : Prop where
  lo : t.Out.length ≤ 1000
  li : t.In.length ≤ 1000
  po : ∀ m ∈ t.Out, Z9i m.Parts
  pi : ∀ m ∈ t.In, Z9i m.Parts
theorem mk_ok (n k : Nat) (h : n ≤ 1000000) (hk : k ≤ 1000) : decide (0 ≤ (n : Int) ∧ (n : Int) ≤ (n : Int) ∧ n * k ≤ lim ∧ (n : Int) ≤ (↑maxLen : Int)) = true := by
  have h1 : n * k ≤ 1000000000 := Nat.le_trans (Nat.mul_le_mul h hk) (by decide)
  have h2 : n ≤ maxLen := Nat.le_trans (Nat.le_trans h (by decide)) Z7s
  exact decide_eq_true ⟨by omega, by omega, Nat.le_trans h1 Zno, by exact_mod_cast h2⟩
theorem cp {α : Type} (l : List α) (z : α) : l.take l.length ++ (List.replicate l.length z).drop l.length = l := by
  rw [List.take_length, List.drop_of_length_le (by simp)]
  simp
theorem Zl3 (x : Z6) : (⟨x.Dst, x.Src, x.App, x.Zero, x.IV, x.Parts, x.Acked, x.Due, x.Tries, x.TTL⟩ : Z6) = x := rfl
theorem ZqK (x : Z9) : (⟨x.Src, x.Dst, x.App, x.Zero, x.IV, x.Last, x.Parts, x.Block, x.Due, x.TTL, x.Done⟩ : Z9) = x := rfl
theorem Zlo (x : List Int) (h : x.length ≤ 100000) : Zy [x] = some x := by
  rw [Zfw [x] (by simpa using h) (by simp)]
  simp
theorem Z76 (l : List (List Int)) (h : Z9i l) : Z2l l = some l := (Z4 _ _).trans (by
  have h0 := h.len
  simp only [Z0M, mk_ok l.length 24 (by omega) (by decide), Tr.den, flowJ, Int.toNat_natCast, cp, List.length_replicate, beq_self_eq_true, cond_true]
  have key := Z5V (fun (s : List (List Int)) i => flow Z0M (.b1 s l l.length i)) l (fun s _ => s) some (fun i s => s = l) (fun i s hi hs => by
      subst hs
      refine ⟨(Z4 _ _).trans ?_, rfl⟩
      have h1 := h.each s[i] (List.getElem_mem hi)
      simp (disch := omega) only [Z0M, hi, Zlo s[i] (by omega), List.set_getElem_self, Nat.zero_le, Tr.den, flowJ, SL, SM])
    (fun s _ => (Z4 _ _).trans (by simp only [Z0M, Int.lt_irrefl, Tr.den, flowJ, SL, SM])) l rfl
  rw [key.1, key.2])
theorem ZdP (t : Z7) (h : TOK t) : Z45 t = some ⟨t⟩ := (Z4 _ _).trans (by
  have h1 := h.lo
  have h2 := h.li
  simp only [ZI, mk_ok t.Out.length 72 (by omega) (by decide), mk_ok t.In.length 80 (by omega) (by decide), Tr.den, flowJ, Int.toNat_natCast, cp, List.length_replicate, List.length_nil, beq_self_eq_true, Bool.and_self, cond_true]
  have key2 : ∀ z, flow ZI (.b2 t.In.length 0 z t) = some ⟨t⟩ := fun z => by
    have key := Z5V (fun (s : Z7) i => flow ZI (.b2 t.In.length i z s)) t.In (fun s _ => s) (fun s => some ⟨s⟩) (fun i s => s = t) (fun i s hi hs => by
        subst hs
        refine ⟨(Z4 _ _).trans ?_, rfl⟩
        have h3 := Z76 _ (h.pi s.In[i] (List.getElem_mem hi))
        simp (disch := omega) only [ZI, hi, h3, Zl3, ZqK, List.set_getElem_self, Nat.zero_le, Bool.and_self, Tr.den, flowJ, SL, SM])
      (fun s _ => (Z4 _ _).trans (by simp only [ZI, Int.lt_irrefl, Bool.and_self, Tr.den, flowJ, SL, SM])) t rfl
    rw [key.1, key.2]
  have key := Z5V (fun (s : Z7) i => flow ZI (.b1 t.Out.length i ⟨[], []⟩ s)) t.Out (fun s _ => s) (fun s => flow ZI (.b2 s.In.length 0 ⟨[], []⟩ s)) (fun i s => s = t) (fun i s hi hs => by
      subst hs
      refine ⟨(Z4 _ _).trans ?_, rfl⟩
      have h3 := Z76 _ (h.po s.Out[i] (List.getElem_mem hi))
      simp (disch := omega) only [ZI, hi, h3, Zl3, ZqK, List.set_getElem_self, Nat.zero_le, Bool.and_self, Tr.den, flowJ, SL, SM])
    (fun s _ => (Z4 _ _).trans (by simp only [ZI, Int.lt_irrefl, Bool.and_self, Tr.den, flowJ, SL, SM])) t rfl
  refine Eq.trans ?_ (key.1.trans ?_)
  · rfl
  · rw [key.2]
    exact key2 _)
def Z2B (n : Int) : Int := if n < 1 then 0 else if n > 384 then 0 else if n ≤ 15 then 1 else (n + 11) / 12
theorem Zes (n : Int) (h : 0 ≤ n) : Z3D n = some (Z2B n) := (Z4 _ _).trans (by
  have h1 : n ≤ 384 → flow Z1t (.b1 n) = some (if n ≤ 15 then 1 else (n + 11) / 12) := fun h' => (Z4 _ _).trans (by
    simp only [Z1t, Tr.den, flowJ]
    rw [Z0s (n := n + 12) (by omega) (by omega), Z0s (n := n + 12 - 1) (by omega) (by omega), Int.tdiv_eq_ediv_of_nonneg (by omega), Z0s (by omega) (by omega), show n + 12 - 1 = n + 11 by omega, Bool.cond_decide, Z1l])
  simp only [Z1t, Tr.den, flowJ, Bool.cond_decide, Z2B]
  split
  · rfl
  · split
    · rfl
    · exact h1 (by omega))
theorem Zq2 (n : Int) (h : 0 ≤ n) : Z88 n = some (Z2B n) := (Z4 _ _).trans (by
  have h1 : n ≤ 384 → flow Z64 (.b1 n) = some (if n ≤ 15 then 1 else (n + 11) / 12) := fun h' => (Z4 _ _).trans (by
    simp only [Z64, Tr.den, flowJ]
    rw [Z0s (n := n + 12) (by omega) (by omega), Z0s (n := n + 12 - 1) (by omega) (by omega), Int.tdiv_eq_ediv_of_nonneg (by omega), Z0s (by omega) (by omega), show n + 12 - 1 = n + 11 by omega, Bool.cond_decide, Z1l])
  simp only [Z64, Tr.den, flowJ, Bool.cond_decide, Z2B]
  split
  · rfl
  · split
    · rfl
    · exact h1 (by omega))
def toB (l : List Z6) (dst : Int) : Bool := l.any fun m => m.Dst == dst
theorem Zrm {R α : Type} (F : Int → Option R) (xs : List α) (p : α → Bool) (yes : R) (no : Option R)
    (hy : ∀ (i : Nat) (h : i < xs.length), p xs[i] = true → F i = some yes) (hn : ∀ (i : Nat) (h : i < xs.length), p xs[i] = false → F i = F ((i + 1 : Nat) : Int)) (hf : F (xs.length : Int) = no) : F 0 = if xs.any p = true then some yes else no := by
  have key : ∀ (zs ys : List α), xs = ys ++ zs → F (ys.length : Int) = if zs.any p = true then some yes else no := by
    intro zs
    induction zs with
    | nil => intro ys hx; rw [List.append_nil] at hx; subst hx; simpa using hf
    | cons z zs ih =>
      intro ys hx
      have hl : ys.length < xs.length := by rw [hx]; simp
      have hz : xs[ys.length] = z := by simp [hx]
      cases hp : p z with
      | true => rw [hy ys.length hl (by rw [hz]; exact hp)]; simp [hp]
      | false =>
        rw [hn ys.length hl (by rw [hz]; exact hp)]
        have := ih (ys ++ [z]) (by simp [hx])
        rw [List.length_append] at this
        refine this.trans ?_
        simp [hp]
  exact key xs [] rfl
def Zp9 (t : Z7) (a : Zt) : Int := if toB t.Out a.Dst = true then 20 else if (t.Out.length : Int) ≥ 8 then 8 else 0
def Z8u (t : Z7) (a : Zt) : Int := if (a.Bytes.length : Int) > 384 then 4 else if a.Seq.Seq + Z2B a.Bytes.length - 1 > 16777215 then 5 else if (a.Bytes.length : Int) ≤ 15 then 0 else Zp9 t a
def Z9c (t : Z7) (a : Zt) : Int := bif !nodeB a.Src || (!nodeB a.Dst && !Z4v a.Dst) || decide (a.Bytes = []) then 1 else Z8u t a
structure AccOK (a : Zt) : Prop where
  len : a.Bytes.length ≤ 10000
  seq : SeqOK a.Seq
theorem Zrl (n : Nat) : 0 ≤ Z2B n ∧ Z2B n ≤ 32 := by unfold Z2B; repeat' split; all_goals omega
theorem Zoe {n : Nat} (h : 0 < n) (h' : n ≤ 384) : 1 ≤ Z2B n := by unfold Z2B; repeat' split; all_goals omega
theorem Zcn (t : Z7) (ht : TOK t) (a : Zt) (ha : AccOK a) : Z3q t a = some (Z9c t a) := by
  have hl := ht.lo
  have hseq := ha.seq.seq
  have s1 := hseq.1; have s2 := hseq.2
  have h2 : flow ZJ (.b2 t.Out t.Out.length 0 t a) = some (Zp9 t a) := by
    rw [Zrm (fun i => flow ZJ (.b2 t.Out t.Out.length i t a)) t.Out (fun m => m.Dst == a.Dst) 20 (some (if (t.Out.length : Int) ≥ 8 then 8 else 0))
      (fun i hi hp => (Z4 _ _).trans (by simp (disch := omega) only [ZJ, hi, hp, Tr.den, flowJ, SL, SM]))
      (fun i hi hp => (Z4 _ _).trans (by simp (disch := omega) only [ZJ, hi, hp, Tr.den, flowJ, SL, SM]))
      ((Z4 _ _).trans (by simp only [ZJ, Int.lt_irrefl, Bool.cond_decide, Z1l, Tr.den, flowJ, SL, SM]))]
    rw [Z1l]
    rfl
  have h1 : 0 < a.Bytes.length → flow ZJ (.b1 a.Bytes.length t a) = some (Z8u t a) := fun hpos => (Z4 _ _).trans (by
    have hc := Zrl a.Bytes.length
    simp only [ZJ, Tr.den, flowJ, Zes _ (Int.natCast_nonneg a.Bytes.length), Option.bind_some, h2, Z8u]
    by_cases h384 : (a.Bytes.length : Int) > 384
    · rw [decide_eq_true h384, if_pos h384]; rfl
    · have hc1 := Zoe hpos (show a.Bytes.length ≤ 384 by omega)
      rw [decide_eq_false h384, if_neg h384, wu64 (n := a.Seq.Seq) (by omega) (by omega), wu64 (n := Z2B _) (by omega) (by omega), wu64 (n := a.Seq.Seq + Z2B _) (by omega) (by omega), wu64 (n := a.Seq.Seq + Z2B _ - 1) (by omega) (by omega)]
      simp only [cond_false, Bool.cond_decide, Z1l])
  refine (Z4 _ _).trans ?_
  simp only [ZJ, Tr.den, flowJ, Z59, Z6A, Option.bind_some, len0, Z9c]
  by_cases hb : a.Bytes = []
  · cases nodeB a.Src <;> cases nodeB a.Dst <;> cases Z4v a.Dst <;> simp [hb]
  · have := h1 (List.length_pos_iff.2 hb)
    rw [this]
    cases nodeB a.Src <;> cases nodeB a.Dst <;> cases Z4v a.Dst <;> simp [hb]
def Zcx (k : Nat) (b : List Int) : List (List Int) := (List.range k).map fun i => (b.drop (12 * i)).take 12
theorem Zhx (k : Nat) (b : List Int) : Zcx (k + 1) b = Zcx k b ++ [(b.drop (12 * k)).take 12] := by simp [Zcx, List.range_succ]
theorem Z7e (k : Nat) (b : List Int) : (Zcx k b).length = k := by simp [Zcx]
theorem Zul (k : Nat) (b : List Int) (hk : k ≤ 1000) : Z9i (Zcx k b) := ⟨by rw [Z7e]; exact hk, fun p hp => by
  obtain ⟨i, _, rfl⟩ := List.mem_map.1 hp
  rw [List.length_take]
  omega⟩
def segv (m : Z6) (i : Nat) : Z5 := ⟨false, true, m.App, m.Zero % 8192, i, (m.Parts.length : Int) - 1, 0, 0, false, (m.Parts[i]?).getD []⟩
def segs (m : Z6) (k : Nat) : List Z5 := (List.range k).map (segv m)
theorem ZnD (m : Z6) (k : Nat) : segs m (k + 1) = segs m k ++ [segv m k] := by simp [segs, List.range_succ]
theorem ZlW (m : Z6) (k : Nat) : (segs m k).length = k := by simp [segs]
structure MsgOK (m : Z6) : Prop where
  parts : Z9i m.Parts
  zero : U32 m.Zero
theorem Zc2 (m : Z6) (hm : MsgOK m) (i : Nat) (h : i < m.Parts.length) : Z2H m i = some (segv m i) := (Z4 _ _).trans (by
  have h1 := hm.parts.each m.Parts[i] (List.getElem_mem h)
  have h2 := hm.parts.len
  have z1 := hm.zero.1; have z2 := hm.zero.2
  have e1 : w64 (m.Zero.tmod 8192) = m.Zero % 8192 := by rw [Int.tmod_eq_emod_of_nonneg z1, Z0s (by omega) (by omega)]
  have e2 : w64 ((m.Parts.length : Int) - 1) = (m.Parts.length : Int) - 1 := Z0s (by omega) (by omega)
  simp only [Z2J, h, Zlo m.Parts[i] (by omega), e1, e2, segv, Option.getD_some, Tr.den, flowJ, SL, SM])
theorem ZkN (m : Z6) (hm : MsgOK m) (i : Nat) (h : i < m.Parts.length) : Z7M m i = some (segv m i) := (Z4 _ _).trans (by
  have h1 := hm.parts.each m.Parts[i] (List.getElem_mem h)
  have h2 := hm.parts.len
  have z1 := hm.zero.1; have z2 := hm.zero.2
  have e1 : w64 (m.Zero.tmod 8192) = m.Zero % 8192 := by rw [Int.tmod_eq_emod_of_nonneg z1, Z0s (by omega) (by omega)]
  have e2 : w64 ((m.Parts.length : Int) - 1) = (m.Parts.length : Int) - 1 := Z0s (by omega) (by omega)
  simp (disch := omega) only [Z7H, h, e1, e2, segv, Option.getD_some, Tr.den, flowJ, SL, SM])
def msgv (a : Zt) (now : Int) : Z6 := ⟨a.Dst, a.Src, a.App, a.Seq.Seq, a.Seq.IV, Zcx ((a.Bytes.length + 11) / 12) a.Bytes, 0, w64 (now + 20), 1, a.TTL⟩
def sendV (t : Z7) (a : Zt) (now : Int) : Z7 × List Z5 × Int :=
  if Z9c t a = 0 then
    (if (a.Bytes.length : Int) ≤ 15 then (t, [⟨false, false, a.App, 0, 0, 0, 0, 0, false, a.Bytes⟩], 0)
     else (⟨t.Out ++ [msgv a now], t.In⟩, segs (msgv a now) ((a.Bytes.length + 11) / 12), 0))
  else (t, [], Z9c t a)
theorem Ztu (a : Zt) (ha : AccOK a) (now : Int) : MsgOK (msgv a now) := ⟨Zul _ _ (by have := ha.len; omega), ha.seq.seq⟩
theorem Zg4 (t : Z7) (ht : TOK t) (a : Zt) (ha : AccOK a) (now : Int) : Z4J t a now = some (sendV t a now) := by
  have hlen := ha.len
  have hto := ht.lo
  have hmsg := Ztu a ha now
  have h2 : ∀ z, flow ZO (.b2 [] ((msgv a now).Parts.length : Int) 0 t z (msgv a now)) = some (⟨t.Out ++ [msgv a now], t.In⟩, segs (msgv a now) (msgv a now).Parts.length, 0) := fun z => by
    have key : ∀ d i : Nat, i + d = (msgv a now).Parts.length → flow ZO (.b2 (segs (msgv a now) i) ((msgv a now).Parts.length : Int) i t z (msgv a now)) = some (⟨t.Out ++ [msgv a now], t.In⟩, segs (msgv a now) (msgv a now).Parts.length, 0) := by
      have hp := hmsg.parts.len
      intro d
      induction d with
      | zero =>
        intro i hi
        obtain rfl : i = (msgv a now).Parts.length := by omega
        refine (Z4 _ _).trans ?_
        simp (disch := omega) only [ZO, Int.lt_irrefl, Bool.and_self, Tr.den, flowJ, SL, SM]
      | succ d ih =>
        intro i hi
        have hlt : i < (msgv a now).Parts.length := by omega
        rw [← ih (i + 1) (by omega), ZnD]
        have hs := ZlW (msgv a now) i
        refine (Z4 _ _).trans ?_
        simp (disch := omega) only [ZO, hlt, Zc2 _ hmsg i hlt, hs, Bool.and_self, Tr.den, flowJ, SL, SM]
    exact key _ 0 (Nat.zero_add _)
  have h1 : ∀ z, flow ZO (.b1 a.Bytes t z ⟨a.Dst, a.Src, a.App, a.Seq.Seq, a.Seq.IV, [], 0, w64 (now + 20), 1, a.TTL⟩) = some (⟨t.Out ++ [msgv a now], t.In⟩, segs (msgv a now) (msgv a now).Parts.length, 0) := fun z => by
    have key : ∀ d i : Nat, i + d = (a.Bytes.length + 11) / 12 → flow ZO (.b1 (a.Bytes.drop (12 * i)) t z ⟨a.Dst, a.Src, a.App, a.Seq.Seq, a.Seq.IV, Zcx i a.Bytes, 0, w64 (now + 20), 1, a.TTL⟩) = some (⟨t.Out ++ [msgv a now], t.In⟩, segs (msgv a now) (msgv a now).Parts.length, 0) := by
      intro d
      induction d with
      | zero =>
        intro i hi
        obtain rfl : i = (a.Bytes.length + 11) / 12 := by omega
        refine Eq.trans ((Z4 _ _).trans ?_) (h2 z)
        rw [List.drop_of_length_le (by omega)]
        simp only [ZO, Int.lt_irrefl, Bool.and_self, msgv, gt_iff_lt, Int.ofNat_zero, Tr.den, flowJ, SL, SM]
      | succ d ih =>
        intro i hi
        rw [← ih (i + 1) (by omega), Zhx]
        have hd : (a.Bytes.drop (12 * i)).length = a.Bytes.length - 12 * i := List.length_drop
        have hpos : decide (((a.Bytes.length - 12 * i : Nat) : Int) > 0) = true := decide_eq_true (by omega)
        have e1 : (if ((a.Bytes.length - 12 * i : Nat) : Int) < 12 then ((a.Bytes.length - 12 * i : Nat) : Int) else 12) = ((min (a.Bytes.length - 12 * i) 12 : Nat) : Int) := by split <;> omega
        have e2 : decide (0 ≤ ((min (a.Bytes.length - 12 * i) 12 : Nat) : Int) ∧ ((min (a.Bytes.length - 12 * i) 12 : Nat) : Int) ≤ ((a.Bytes.length - 12 * i : Nat) : Int)) = true := decide_eq_true (by omega)
        have e5 : decide (((min (a.Bytes.length - 12 * i) 12 : Nat) : Int) ≤ ((a.Bytes.length - 12 * i : Nat) : Int)) = true := decide_eq_true (by omega)
        have e3 : (a.Bytes.drop (12 * i)).take (min (a.Bytes.length - 12 * i) 12) = (a.Bytes.drop (12 * i)).take 12 := by
          rw [Nat.min_comm, ← hd, ← List.take_eq_take_min]
        have e4 : ((a.Bytes.drop (12 * i)).drop (min (a.Bytes.length - 12 * i) 12)).take (a.Bytes.length - 12 * i - min (a.Bytes.length - 12 * i) 12) = a.Bytes.drop (12 * (i + 1)) := by
          rw [List.take_of_length_le (by rw [List.length_drop, hd]; omega), List.drop_drop]
          by_cases hc : 12 ≤ a.Bytes.length - 12 * i
          · rw [Nat.min_eq_right hc, Nat.mul_succ]
          · rw [List.drop_of_length_le (by omega), List.drop_of_length_le (by omega)]
        have hj := Zlo ((a.Bytes.drop (12 * i)).take 12) (by rw [List.length_take]; omega)
        have hcl := Z7e i a.Bytes
        refine (Z4 _ _).trans ?_
        simp only [ZO, hd, hpos, e1, Tr.den, flowJ, cond_true]
        simp (disch := omega) only [e2, e5, e3, e4, List.drop_zero, Nat.sub_zero, hj, hcl, Bool.and_self, Tr.den, flowJ, SL, SM]
    exact key _ 0 (Nat.zero_add _)
  refine (Z4 _ _).trans ?_
  simp only [ZO, Tr.den, flowJ, Zcn t ht a ha, ZdP t ht, bne0, Option.bind_some, sendV]
  by_cases hr : Z9c t a = 0
  · by_cases h15 : (a.Bytes.length : Int) ≤ 15
    · simp only [hr, decide_true, Bool.not_true, cond_false, decide_eq_true h15, cond_true, if_true, if_pos h15, Zlo a.Bytes (by omega), beq_self_eq_true, Bool.and_self, List.length_cons, List.length_nil, Option.bind_some]
    · simp only [hr, decide_true, Bool.not_true, cond_false, decide_eq_false h15, cond_true, if_true, if_neg h15, beq_self_eq_true, Bool.and_self, List.length_nil, h1]
      rw [show (msgv a now).Parts.length = (a.Bytes.length + 11) / 12 from Z7e _ _]
  · rw [if_neg hr, decide_eq_false hr]
    simp only [Bool.not_false, cond_true, beq_self_eq_true, Bool.and_self, List.length_nil]
theorem ZvZ (l : List Z6) (dst : Int) (h : l.length ≤ 100000) : Zm6 l dst = some (toB l dst) := (Z4 _ _).trans (by
  simp only [Z7N, Tr.den, flowJ]
  rw [Zrm (fun i => flow Z7N (.b1 l dst i)) l (fun m => m.Dst == dst) true (some false)
    (fun i hi hp => (Z4 _ _).trans (by simp (disch := omega) only [Z7N, hi, hp, Tr.den, flowJ, SL, SM]))
    (fun i hi hp => (Z4 _ _).trans (by simp (disch := omega) only [Z7N, hi, hp, Tr.den, flowJ, SL, SM]))
    ((Z4 _ _).trans (by simp only [Z7N, Int.lt_irrefl, Tr.den, flowJ, SL, SM]))]
  unfold toB
  cases l.any fun m => m.Dst == dst <;> rfl)
theorem ZsD (t : Z7) (ht : TOK t) (a : Zt) (ha : AccOK a) (now : Int) : Ze1 t a now = some (sendV t a now) := by
  have hlen := ha.len
  have hto := ht.lo
  have hti := ht.li
  have hmsg := Ztu a ha now
  have s1 := ha.seq.seq.1; have s2 := ha.seq.seq.2
  have h8 : ∀ z, flow ZP (.b8 [] 0 t z (msgv a now)) = some (⟨t.Out ++ [msgv a now], t.In⟩, segs (msgv a now) (msgv a now).Parts.length, 0) := fun z => by
    have key : ∀ d i : Nat, i + d = (msgv a now).Parts.length → flow ZP (.b8 (segs (msgv a now) i) i t z (msgv a now)) = some (⟨t.Out ++ [msgv a now], t.In⟩, segs (msgv a now) (msgv a now).Parts.length, 0) := by
      have hp := hmsg.parts.len
      intro d
      induction d with
      | zero =>
        intro i hi
        obtain rfl : i = (msgv a now).Parts.length := by omega
        refine (Z4 _ _).trans ?_
        simp (disch := omega) only [ZP, Int.lt_irrefl, Bool.and_self, Tr.den, flowJ, SL, SM]
      | succ d ih =>
        intro i hi
        have hlt : i < (msgv a now).Parts.length := by omega
        rw [← ih (i + 1) (by omega), ZnD]
        have hs := ZlW (msgv a now) i
        refine (Z4 _ _).trans ?_
        simp (disch := omega) only [ZP, hlt, ZkN _ hmsg i hlt, hs, Bool.and_self, Tr.den, flowJ, SL, SM]
    exact key _ 0 (Nat.zero_add _)
  have h7 : ∀ z, flow ZP (.b7 a.Bytes.length 0 t a z ⟨a.Dst, a.Src, a.App, a.Seq.Seq, a.Seq.IV, [], 0, w64 (now + 20), 1, a.TTL⟩) = some (⟨t.Out ++ [msgv a now], t.In⟩, segs (msgv a now) (msgv a now).Parts.length, 0) := fun z => by
    have key : ∀ d i : Nat, i + d = (a.Bytes.length + 11) / 12 → flow ZP (.b7 a.Bytes.length ((12 * i : Nat) : Int) t a z ⟨a.Dst, a.Src, a.App, a.Seq.Seq, a.Seq.IV, Zcx i a.Bytes, 0, w64 (now + 20), 1, a.TTL⟩) = some (⟨t.Out ++ [msgv a now], t.In⟩, segs (msgv a now) (msgv a now).Parts.length, 0) := by
      intro d
      induction d with
      | zero =>
        intro i hi
        obtain rfl : i = (a.Bytes.length + 11) / 12 := by omega
        refine Eq.trans ((Z4 _ _).trans ?_) (h8 z)
        simp (disch := omega) only [ZP, Bool.and_self, msgv, Tr.den, flowJ, SL, SM]
      | succ d ih =>
        intro i hi
        rw [← ih (i + 1) (by omega), Zhx]
        have hlt : 12 * i < a.Bytes.length := by omega
        have ew : w64 (((12 * i : Nat) : Int) + 12) = ((12 * (i + 1) : Nat) : Int) := by rw [Z0s (by omega) (by omega)]; omega
        have e1 : (if ((12 * (i + 1) : Nat) : Int) < (a.Bytes.length : Int) then ((12 * (i + 1) : Nat) : Int) else (a.Bytes.length : Int)) = ((min (12 * (i + 1)) a.Bytes.length : Nat) : Int) := by split <;> omega
        have e2 : decide (((min (12 * (i + 1)) a.Bytes.length : Nat) : Int) ≤ (a.Bytes.length : Int)) = true := decide_eq_true (by omega)
        have e2' : decide (((12 * i : Nat) : Int) ≤ ((min (12 * (i + 1)) a.Bytes.length : Nat) : Int)) = true := decide_eq_true (by omega)
        have e3 : (a.Bytes.drop (12 * i)).take (min (12 * (i + 1)) a.Bytes.length - 12 * i) = (a.Bytes.drop (12 * i)).take 12 := by
          by_cases hc : 12 * (i + 1) ≤ a.Bytes.length
          · rw [Nat.min_eq_left hc, show 12 * (i + 1) - 12 * i = 12 by omega]
          · rw [List.take_of_length_le (by rw [List.length_drop]; omega), List.take_of_length_le (by rw [List.length_drop]; omega)]
        have hcl := Z7e i a.Bytes
        have htl : ((a.Bytes.drop (12 * i)).take 12).length ≤ 12 := by rw [List.length_take]; omega
        refine (Z4 _ _).trans ?_
        simp only [ZP, ew, e1, Tr.den, flowJ]
        simp (disch := omega) only [hlt, e2, e2', e3, hcl, Bool.and_self, Tr.den, flowJ, SL, SM]
    exact key _ 0 (Nat.zero_add _)
  have big : (if (a.Bytes.length : Int) ≤ 15 then (t, [(⟨false, false, a.App, 0, 0, 0, 0, 0, false, a.Bytes⟩ : Z5)], (0 : Int)) else (⟨t.Out ++ [msgv a now], t.In⟩, segs (msgv a now) ((a.Bytes.length + 11) / 12), 0)) =
      (if (a.Bytes.length : Int) > 15 then (⟨t.Out ++ [msgv a now], t.In⟩, segs (msgv a now) ((a.Bytes.length + 11) / 12), 0) else (t, [(⟨false, false, a.App, 0, 0, 0, 0, 0, false, a.Bytes⟩ : Z5)], (0 : Int))) := by
    by_cases h15 : (a.Bytes.length : Int) ≤ 15
    · rw [if_pos h15, if_neg (by omega)]
    · rw [if_neg h15, if_pos (by omega)]
  have h6 : ∀ z, flow ZP (.b6 now a.Bytes.length (decide ((a.Bytes.length : Int) > 15)) t a z) = some (if (a.Bytes.length : Int) > 15 then (⟨t.Out ++ [msgv a now], t.In⟩, segs (msgv a now) ((a.Bytes.length + 11) / 12), 0) else (t, [(⟨false, false, a.App, 0, 0, 0, 0, 0, false, a.Bytes⟩ : Z5)], (0 : Int))) := fun z => (Z4 _ _).trans (by
    by_cases h15 : (a.Bytes.length : Int) > 15
    · simp only [ZP, Tr.den, flowJ, decide_eq_true h15, if_pos h15, Bool.not_true, cond_false, cond_true, beq_self_eq_true, Bool.and_self, List.length_nil, h7]
      rw [show (msgv a now).Parts.length = (a.Bytes.length + 11) / 12 from Z7e _ _]
    · simp (disch := omega) only [ZP, decide_eq_false h15, if_neg h15, Tr.den, flowJ, SL, SM])
  have h1 : ∀ z, flow ZP (.b1 t z) = some (t, [], 1) := fun z => (Z4 _ _).trans rfl
  have h3 : ∀ z, flow ZP (.b3 t z) = some (t, [], 20) := fun z => (Z4 _ _).trans rfl
  have h5 : ∀ z, flow ZP (.b5 t z) = some (t, [], 8) := fun z => (Z4 _ _).trans rfl
  have h4 : ∀ z, flow ZP (.b4 now a.Bytes.length (decide ((a.Bytes.length : Int) > 15)) t a z) = some (if (a.Bytes.length : Int) > 15 then (if (t.Out.length : Int) ≥ 8 then (t, [], 8) else (⟨t.Out ++ [msgv a now], t.In⟩, segs (msgv a now) ((a.Bytes.length + 11) / 12), 0)) else (t, [(⟨false, false, a.App, 0, 0, 0, 0, 0, false, a.Bytes⟩ : Z5)], (0 : Int))) := fun z => (Z4 _ _).trans (by
    simp only [ZP, Tr.den, flowJ, h5, h6, beq_self_eq_true, Bool.and_self, cond_true]
    by_cases h15 : (a.Bytes.length : Int) > 15 <;> by_cases h8' : (t.Out.length : Int) ≥ 8 <;> simp [h15, h8'])
  have h2 : ∀ z, 0 < a.Bytes.length → flow ZP (.b2 now a.Bytes.length (decide ((a.Bytes.length : Int) > 15)) t a z) = some (if Z8u t a = 0 then (if (a.Bytes.length : Int) > 15 then (⟨t.Out ++ [msgv a now], t.In⟩, segs (msgv a now) ((a.Bytes.length + 11) / 12), 0) else (t, [(⟨false, false, a.App, 0, 0, 0, 0, 0, false, a.Bytes⟩ : Z5)], (0 : Int))) else (t, [], Z8u t a)) := fun z hpos => (Z4 _ _).trans (by
    have hc := Zrl a.Bytes.length
    simp only [ZP, Tr.den, flowJ, Zq2 _ (Int.natCast_nonneg a.Bytes.length), ZvZ t.Out a.Dst (by omega), Option.bind_some, h3, h4, beq_self_eq_true, Bool.and_self, cond_true, List.length_nil]
    by_cases h384 : (a.Bytes.length : Int) > 384
    · have e0 : Z2B a.Bytes.length = 0 := by unfold Z2B; rw [if_neg (by omega), if_pos h384]
      have er : Z8u t a = 4 := by unfold Z8u; rw [if_pos h384]
      rw [e0, er]
      rfl
    · have hc1 := Zoe hpos (show a.Bytes.length ≤ 384 by omega)
      have e0 : (Z2B a.Bytes.length == 0) = false := by simp; omega
      rw [e0, wu64 (n := a.Seq.Seq) (by omega) (by omega), wu64 (n := Z2B _) (by omega) (by omega), wu64 (n := a.Seq.Seq + Z2B _) (by omega) (by omega), wu64 (n := a.Seq.Seq + Z2B _ - 1) (by omega) (by omega)]
      unfold Z8u Zp9
      rw [if_neg h384]
      by_cases hq : a.Seq.Seq + Z2B a.Bytes.length - 1 > 16777215
      · simp [hq]
      · by_cases h15 : (a.Bytes.length : Int) > 15
        · have h15' : ¬ (a.Bytes.length : Int) ≤ 15 := by omega
          simp only [hq, decide_false, cond_false, h15, decide_true, cond_true, if_true, if_false, if_neg h15']
          cases toB t.Out a.Dst with
          | true => rfl
          | false =>
            by_cases h8' : (t.Out.length : Int) ≥ 8
            · simp only [cond_false, Bool.false_eq_true, if_false, if_pos h8']; rfl
            · simp only [cond_false, Bool.false_eq_true, if_false, if_neg h8', if_true]
        · have h15' : (a.Bytes.length : Int) ≤ 15 := by omega
          simp only [hq, decide_false, cond_false, h15, if_true, if_false, if_pos h15'])
  refine (Z4 _ _).trans ?_
  simp only [ZP, Tr.den, flowJ, ZdM, Zbf, Option.bind_some, len0, h1, sendV, Z9c, List.length_nil, beq_self_eq_true, Bool.and_self, cond_true]
  rw [big]
  have q1 := Bool.eq_false_or_eq_true (nodeB a.Src)
  have q2 := Bool.eq_false_or_eq_true (nodeB a.Dst)
  have q3 := Bool.eq_false_or_eq_true (Z4v a.Dst)
  by_cases hb : a.Bytes = []
  · rcases q1 with q1 | q1 <;> rcases q2 with q2 | q2 <;> rcases q3 with q3 | q3 <;> simp [hb, q1, q2, q3]
  · have := fun z => h2 z (List.length_pos_iff.2 hb)
    simp only [this]
    rcases q1 with q1 | q1 <;> rcases q2 with q2 | q2 <;> rcases q3 with q3 | q3 <;> simp [hb, q1, q2, q3]
end Go.Proofs.YtefmbgacbhifdaaGreat
namespace Go.Proofs.YtefmbgacbhifdaaGreat
open Go Go.Proofs.YtefmbgacbhifdaaGreat.Le
set_option maxRecDepth 100000
def txv (v : ZM) : Int := if v.Updating = true ∧ v.Index ≠ 0 then v.Index - 1 else v.Index
theorem Zx2 {v : ZM} (h : U32 v.Index) : U32 (txv v) := by
  have h1 := h.1; have h2 := h.2
  unfold txv U32
  split <;> omega
theorem ZfY (v : ZM) (h : U32 v.Index) : Z6o v = some (txv v) := (Z4 _ _).trans (by
  have h1 := h.1; have h2 := h.2
  have e1 : flow Z2Z (.b2 v) = some v.Index := (Z4 _ _).trans rfl
  have e2 : v.Index ≠ 0 → flow Z2Z (.b1 v) = some (v.Index - 1) := fun hne => (Z4 _ _).trans (by
    simp only [Z2Z, Tr.den, flowJ]
    rw [wu32 (by omega) (by omega)])
  simp only [Z2Z, Tr.den, flowJ, bne0, e1, txv]
  cases hu : v.Updating with
  | false => simp
  | true =>
    by_cases hi : v.Index = 0
    · simp [hi]
    · simp [hi, e2 hi])
theorem Zrh (v : ZM) (h : U32 v.Index) : ZgI v = some (txv v) := (Z4 _ _).trans (by
  have h1 := h.1; have h2 := h.2
  have e1 : flow Zad (.b2 v) = some v.Index := (Z4 _ _).trans rfl
  have e2 : v.Index ≠ 0 → flow Zad (.b1 v) = some (v.Index - 1) := fun hne => (Z4 _ _).trans (by
    simp only [Zad, Tr.den, flowJ]
    rw [wu32 (by omega) (by omega)])
  simp only [Zad, Tr.den, flowJ, e1, txv]
  cases hu : v.Updating with
  | false => simp
  | true =>
    by_cases hi : v.Index = 0
    · simp [hi]
    · have hp : v.Index > 0 := by omega
      simp [hi, hp, e2 hi])
def Z8y (k : ZK) : Zd := if k.Phase = 2 then k.New else k.Old
theorem Zfh (k : ZK) : Z3M k = some (Z8y k) := (Z4 _ _).trans (by
  have h : Z2V k = some (if k.Phase = 1 then [k.Old, k.New] else if k.Phase = 2 then [k.New, k.Old] else [k.Old]) := (Z4 _ _).trans (by
    simp only [Z2I, Tr.den, flowJ, List.length_cons, List.length_nil]
    by_cases h1 : k.Phase = 1
    · simp [h1]
    · by_cases h2 : k.Phase = 2
      · simp [h2]
      · simp [h1, h2, beq_eq_false_iff_ne.2 h1, beq_eq_false_iff_ne.2 h2])
  simp only [Z3Z, h, Tr.den, flowJ, Option.bind_some, Z8y]
  by_cases h1 : k.Phase = 1
  · simp [h1]
  · by_cases h2 : k.Phase = 2
    · simp [h2]
    · simp [h1, h2])
theorem ZlS (k : ZK) : Z8a k = some (Z8y k) := (Z4 _ _).trans (by
  simp only [Z8e, Tr.den, flowJ, Z8y]
  by_cases h2 : k.Phase = 2
  · simp [h2]
  · simp [h2, beq_eq_false_iff_ne.2 h2])
structure ZfP (n : Z8) : Prop where
  adr : U16 n.Address
  iv : U32 n.IV.Index
  seq : U32 n.Seq
  key : KeyRg (Z8y n.Keys)
  low : n.Friend.Low = 0
def takev (n : Z8) : Z8 := { n with Stored := if n.Seq = n.Stored then IntKind.wrap .u32 (n.Stored + 100) else n.Stored, Seq := IntKind.wrap .u32 (n.Seq + 1) }
def numv (n : Z8) : Int := IntKind.wrap .u32 (IntKind.wrap .u32 (n.Seq + 1) - 1)
theorem Zj1 (n : Z8) (now : Int) (ev : List Zi) : Z2j ⟨n, now⟩ ev = some ⟨numv n, ⟨takev n, now⟩, ev⟩ := (Z4 _ _).trans (by
  have h : ∀ x : Z8, flow Z0A (.b1 ⟨x, now⟩ ev) = some ⟨IntKind.wrap .u32 (IntKind.wrap .u32 (x.Seq + 1) - 1), ⟨{ x with Seq := IntKind.wrap .u32 (x.Seq + 1) }, now⟩, ev⟩ := fun x => (Z4 _ _).trans (by
    simp only [Z0A, Bool.and_self, Tr.den, flowJ, SL, SM])
  simp only [Z0A, h, Bool.and_self, Tr.den, flowJ, SL, SM]
  by_cases hs : n.Seq = n.Stored
  · simp [hs, takev, numv]
  · simp [hs, takev, numv, beq_eq_false_iff_ne.2 hs])
theorem Zt3 (n : Z8) : Zf8 n = some (takev n, numv n) := (Z4 _ _).trans (by
  have h : ∀ x z : Z8, flow Za8 (.b1 x z) = some ({ x with Seq := IntKind.wrap .u32 (x.Seq + 1) }, IntKind.wrap .u32 (IntKind.wrap .u32 (x.Seq + 1) - 1)) := fun x z => (Z4 _ _).trans rfl
  simp only [Za8, h, Tr.den, flowJ]
  by_cases hs : n.Seq = n.Stored
  · simp [hs, takev, numv]
  · simp [hs, takev, numv, beq_eq_false_iff_ne.2 hs])
noncomputable def pduv (n : Z8) (k : Zd) (src dst ttl : Int) (l : Z5) : Zc := ⟨txv n.IV, k.NID, l.Control, ttl, numv n, src, dst, (encTv l).1⟩
def outv (n : Z8) (due : Int) (b : List Int) : Z8 := { n with Out := n.Out ++ [⟨due, b, 0⟩] }
noncomputable def emitv (n : Z8) (k : Zd) (src dst ttl : Int) (l : Z5) (now : Int) : Z8 :=
  if (encTv l).2 = 0 then (if (encNv k (pduv n k src dst ttl l)).2 = 0 then outv (takev n) now (encNv k (pduv n k src dst ttl l)).1 else takev n) else takev n
theorem ZsH {p : Zc} (h : p.Seq > 16777215) : checkN p = 5 := by
  unfold checkN
  repeat' split
  all_goals first | rfl | omega
theorem ZlB (k : Zd) (p : Zc) (hp : PduRg p) (due : Int) (n : Z8) (hl : n.Out.length ≤ 100000) (now : Int) (ev : List Zi) :
    Z2z k p due ⟨n, now⟩ ev = some (if (encNv k p).2 = 0 then ⟨true, ⟨outv n due (encNv k p).1, now⟩, ev⟩ else ⟨false, ⟨n, now⟩, ev⟩) := (Z4 _ _).trans (by
  simp (disch := omega) only [Z2w, Zh9 k p hp, bne0, Bool.and_self, Tr.den, flowJ, SL, SM]
  by_cases h : (encNv k p).2 = 0
  · simp [h, outv]
  · simp [h])
theorem ZpA (n : Z8) (due : Int) (b : List Int) (hl : n.Out.length ≤ 100000) : Zca n due b = some (outv n due b) := (Z4 _ _).trans (by
  simp (disch := omega) only [Zbq, outv, Tr.den, flowJ, SL, SM])
theorem Zjm (f : Zk) (h : f.Low = 0) (dst : Int) : Z6L f dst = some false := (Z4 _ _).trans (by
  simp only [Z6E, h, Tr.den, flowJ]
  rfl)
theorem Zpt (f : Zk) (h : f.Low = 0) (dst : Int) : Zbz f dst = some false := (Z4 _ _).trans (by
  simp only [Zb6, h, Tr.den, flowJ]
  rfl)
theorem Zj3 (p : Zc) (l : Z5) (n : Z8) (h : n.Friend.Low = 0) (now : Int) (ev : List Zi) : Z2d p l ⟨n, now⟩ ev = some ⟨⟨n, now⟩, ev⟩ := (Z4 _ _).trans (by
  simp only [Z2b, Zjm _ h, Bool.and_self, Tr.den, flowJ, SL, SM])
theorem Zx4 {n : Z8} (h : ZfP n) (k : Zd) {src dst : Int} (hs : U16 src) (hd : U16 dst) (ttl : Int) (l : Z5) : PduRg (pduv n k src dst ttl l) := ⟨Zx2 h.iv, r32 _, hs, hd⟩
theorem Zj5 (k : Zd) (src dst ttl : Int) (hs : U16 src) (hd : U16 dst) (l : Z5) (hb : U32 l.Block) (n : Z8) (hn : ZfP n) (hl : n.Out.length ≤ 100000) (now : Int) (ev : List Zi) :
    Z2i k ⟨src, dst, ttl, l⟩ ⟨n, now⟩ ev = some ⟨⟨emitv n k src dst ttl l now, now⟩, ev⟩ := (Z4 _ _).trans (by
  have hp := Zx4 hn k hs hd ttl l
  have h1 : (encTv l).2 = 0 → flow Z0z (.b1 (numv n) (encTv l).1 ⟨takev n, now⟩ ev k ⟨src, dst, ttl, l⟩) = some ⟨⟨emitv n k src dst ttl l now, now⟩, ev⟩ := fun he => (Z4 _ _).trans (by
    have hput := ZlB k (pduv n k src dst ttl l) hp now (takev n) hl now ev
    have htx := ZfY (takev n).IV hn.iv
    simp only [Z0z, htx, Tr.den, flowJ, Option.bind_some]
    rw [show (⟨txv (takev n).IV, k.NID, l.Control, ttl, numv n, src, dst, (encTv l).1⟩ : Zc) = pduv n k src dst ttl l from rfl]
    simp only [hput, emitv, he, if_true, Option.bind_some, beq_self_eq_true, Bool.and_self, cond_true]
    by_cases hc : (encNv k (pduv n k src dst ttl l)).2 = 0
    · have hk := Zj3 (pduv n k src dst ttl l) l (outv (takev n) now (encNv k (pduv n k src dst ttl l)).1) hn.low now ev
      simp only [hc, if_true, cond_true, hk, Option.bind_some, beq_self_eq_true, Bool.and_self]
    · simp only [hc, if_false, cond_false, beq_self_eq_true, Bool.and_self, cond_true])
  simp only [Z0z, Zj1, Zd8 l hb, bne0, Tr.den, flowJ, Option.bind_some, beq_self_eq_true, Bool.and_self, cond_true]
  by_cases he : (encTv l).2 = 0
  · simp only [he, decide_true, Bool.not_true, cond_false, h1 he]
    by_cases hq : numv n > 16777215
    · have hc : checkN (pduv n k src dst ttl l) = 5 := ZsH hq
      simp [hq, emitv, he, encNv, hc]
    · simp [hq]
  · simp [he, emitv])
theorem ZrN (k : Zd) (hk : KeyRg k) (src dst ttl : Int) (hs : U16 src) (hd : U16 dst) (l : Z5) (hb : U32 l.Block) (n : Z8) (hn : ZfP n) (hl : n.Out.length ≤ 100000) (now : Int) :
    ZeG n k src dst ttl l now = some (emitv n k src dst ttl l now) := (Z4 _ _).trans (by
  have hp := Zx4 hn k hs hd ttl l
  have htx := Zrh (takev n).IV hn.iv
  have h1 : ∀ (b : List Int) z p, flow Z7c (.b1 dst now b (takev n) l z p) = some (outv (takev n) now b) := fun b z p => (Z4 _ _).trans (by
    simp only [Z7c, ZpA (takev n) now b hl, Zpt (outv (takev n) now b).Friend hn.low, Tr.den, flowJ, SL, SM])
  simp only [Z7c, Zt3, ZmZ l hb, htx, Tr.den, flowJ, Option.bind_some]
  rw [show (⟨txv (takev n).IV, k.NID, l.Control, ttl, numv n, src, dst, (encTv l).1⟩ : Zc) = pduv n k src dst ttl l from rfl]
  simp only [Zo4 k hk _ hp, h1, bne0, Option.bind_some, emitv]
  by_cases he : (encTv l).2 = 0
  · by_cases hc : (encNv k (pduv n k src dst ttl l)).2 = 0
    · simp [he, hc]
    · simp [he, hc]
  · simp [he])
end Go.Proofs.YtefmbgacbhifdaaGreat
namespace Go.Proofs.YtefmbgacbhifdaaGreat
open Go Go.Proofs.YtefmbgacbhifdaaGreat.Le
set_option maxRecDepth 100000
noncomputable def own1 (dst ttl now : Int) (n : Z8) (l : Z5) : Z8 := emitv n (Z8y n.Keys) n.Address dst ttl l now
structure Kept (m n : Z8) (c : Nat) : Prop where
  adr : m.Address = n.Address
  keys : m.Keys = n.Keys
  iv : m.IV = n.IV
  fr : m.Friend = n.Friend
  seq : U32 m.Seq
  out : m.Out.length ≤ n.Out.length + c
theorem Kept.ok {m n : Z8} {c : Nat} (h : Kept m n c) (hn : ZfP n) : ZfP m := ⟨h.adr ▸ hn.adr, h.iv ▸ hn.iv, h.seq, h.keys ▸ hn.key, h.fr ▸ hn.low⟩
theorem Zou (n : Z8) (k : Zd) (src dst ttl : Int) (l : Z5) (now : Int) : Kept (emitv n k src dst ttl l now) n 1 := by
  unfold emitv
  repeat' split
  · exact ⟨rfl, rfl, rfl, rfl, r32 _, by simp [outv, takev]⟩
  · exact ⟨rfl, rfl, rfl, rfl, r32 _, by simp [takev]⟩
  · exact ⟨rfl, rfl, rfl, rfl, r32 _, by simp [takev]⟩
theorem Kept.step {m n : Z8} {c : Nat} (h : Kept m n c) {r : Z8} (h' : Kept r m 1) : Kept r n (c + 1) :=
  ⟨h'.adr.trans h.adr, h'.keys.trans h.keys, h'.iv.trans h.iv, h'.fr.trans h.fr, h'.seq, by have := h.out; have := h'.out; omega⟩
noncomputable def sendN (n : Z8) (dst : Int) (app : Bool) (ttl : Int) (b : List Int) (now : Int) : Z8 × Int :=
  if nodeB dst = false ∧ Z4v dst = false then (n, 1) else if ttl < 0 then (n, 5) else if ttl > 127 then (n, 5) else if b = [] then (n, 1) else if (b.length : Int) > 380 then (n, 4) else
  let id : Za := ⟨n.Address, txv n.IV, n.Seq⟩
  let t := sendV n.Transport ⟨n.Address, dst, app, ttl, id, Z2n (if app = true then n.App else n.Device) app id dst b⟩ now
  if t.2.2 = 0 then (t.2.1.foldl (own1 dst ttl now) { n with Transport := t.1 }, 0) else (n, t.2.2)
structure Zoq (n : Z8) : Prop where
  ok : ZfP n
  up : n.Up = true
  out : n.Out.length ≤ 1000
  tr : TOK n.Transport
  dev : K64 n.Device
  app : K64 n.App
theorem Zpx (t : Z7) (a : Zt) (now : Int) : (sendV t a now).2.1.length ≤ (a.Bytes.length + 11) / 12 + 1 ∧ ∀ l ∈ (sendV t a now).2.1, l.Block = 0 := by
  unfold sendV
  split
  · split
    · refine ⟨by simp, fun l hl => ?_⟩
      simp only [List.mem_singleton] at hl
      rw [hl]
    · refine ⟨by simp [ZlW], fun l hl => ?_⟩
      obtain ⟨i, _, rfl⟩ := List.mem_map.1 hl
      rfl
  · exact ⟨by simp, fun l hl => by cases hl⟩
theorem Zvb {n : Z8} (h : Zoq n) (dst : Int) (app : Bool) (ttl : Int) (b : List Int) (hb : ¬ (b.length : Int) > 380) :
    AccOK ⟨n.Address, dst, app, ttl, ⟨n.Address, txv n.IV, n.Seq⟩, Z2n (if app = true then n.App else n.Device) app ⟨n.Address, txv n.IV, n.Seq⟩ dst b⟩ :=
  ⟨by show (Z2n _ _ _ _ _).length ≤ 10000; rw [Z2n, ZiA]; omega, ⟨h.ok.adr, h.ok.seq, Zx2 h.ok.iv⟩⟩
theorem ZsY (n : Z8) (h : Zoq n) (dst : Int) (hd : U16 dst) (app : Bool) (ttl : Int) (b : List Int) (now : Int) : ZdT n dst app ttl b now = some (sendN n dst app ttl b now) := by
  have h2 : ∀ z, ¬ (nodeB dst = false ∧ Z4v dst = false) → ¬ ttl < 0 → ¬ ttl > 127 → flow Z20 (.b2 dst app ttl b now n z) = some (sendN n dst app ttl b now) := fun z c1 c2 c3 => (Z4 _ _).trans (by
    simp only [Z20, len0, Tr.den, flowJ, sendN, if_neg c1, if_neg c2, if_neg c3]
    by_cases hb0 : b = []
    · simp [hb0]
    · by_cases hb : (b.length : Int) > 380
      · simp [hb0, hb]
      · have hacc := Zvb h dst app ttl b hb
        have hkey : Za1 n app = some (if app = true then n.App else n.Device) := (Z4 _ _).trans (by cases app <;> rfl)
        have hk64 : K64 (if app = true then n.App else n.Device) := by split; exact h.app; exact h.dev
        have hseal := Zma _ hk64 app ⟨n.Address, txv n.IV, n.Seq⟩ hacc.seq dst hd b (by omega)
        have hsend := ZsD n.Transport h.tr _ hacc now
        obtain ⟨hlow, hblk⟩ := Zpx n.Transport ⟨n.Address, dst, app, ttl, ⟨n.Address, txv n.IV, n.Seq⟩, Z2n (if app = true then n.App else n.Device) app ⟨n.Address, txv n.IV, n.Seq⟩ dst b⟩ now
        have hblen := hacc.len
        simp only [decide_eq_false hb0, decide_eq_false hb, cond_false, if_neg hb0, if_neg hb, Zrh n.IV h.ok.iv, hkey, hseal, hsend, Option.bind_some, bne0]
        revert hlow hblk
        generalize hS : sendV n.Transport _ now = S
        intro hlow hblk
        have key := Z5V (fun (s : Z8) i => flow Z20 (.b3 dst ttl now S.2.1 i s z)) S.2.1 (own1 dst ttl now) (fun s => some (s, 0)) (fun i s => Kept s { n with Transport := S.1 } i) (fun i s hi hs => by
            have hn' : ZfP ({ n with Transport := S.1 } : Z8) := ⟨h.ok.adr, h.ok.iv, h.ok.seq, h.ok.key, h.ok.low⟩
            have hok := hs.ok hn'
            have ho := hs.out
            have hout := h.out
            have hlen2 : s.Out.length ≤ 100000 := by
              have : ({ n with Transport := S.1 } : Z8).Out.length = n.Out.length := rfl
              omega
            refine ⟨(Z4 _ _).trans ?_, hs.step (Zou _ _ _ _ _ _ _)⟩
            have e1 : Zfd s dst ttl S.2.1[i] now = some (own1 dst ttl now s S.2.1[i]) := (Z4 _ _).trans (by
              have hb0' : U32 (S.2.1[i]).Block := by rw [hblk _ (List.getElem_mem hi)]; exact ⟨by decide, by decide⟩
              simp only [ZeW, ZlS, ZrN (Z8y s.Keys) hok.key s.Address dst ttl hok.adr hd S.2.1[i] hb0' s hok hlen2 now, own1, Tr.den, flowJ, SL, SM])
            simp (disch := omega) only [Z20, hi, e1, Tr.den, flowJ, SL, SM])
          (fun s _ => (Z4 _ _).trans (by simp only [Z20, Int.lt_irrefl, Tr.den, flowJ, SL, SM])) { n with Transport := S.1 } ⟨rfl, rfl, rfl, rfl, h.ok.seq, Nat.le_refl _⟩
        by_cases hz : S.2.2 = 0
        · simp only [hz, decide_true, Bool.not_true, cond_false, if_true]
          exact key.1
        · simp only [if_neg hz, decide_eq_false hz, Bool.not_false, cond_true])
  have h1 : ∀ z, ¬ (nodeB dst = false ∧ Z4v dst = false) → flow Z20 (.b1 dst app ttl b now n z) = some (sendN n dst app ttl b now) := fun z c1 => (Z4 _ _).trans (by
    simp only [Z20, Tr.den, flowJ]
    by_cases c2 : ttl < 0
    · simp [c2, sendN, c1]
    · by_cases c3 : ttl > 127
      · simp [c2, c3, sendN, c1]
      · rw [decide_eq_false c2, decide_eq_false c3]
        exact h2 z c1 c2 c3)
  refine (Z4 _ _).trans ?_
  simp only [Z20, h.up, ZdM, Zbf, Tr.den, flowJ, Option.bind_some, Bool.not_true, cond_false]
  have q1 := Bool.eq_false_or_eq_true (nodeB dst)
  have q2 := Bool.eq_false_or_eq_true (Z4v dst)
  rcases q1 with q1 | q1
  · simp only [q1, Bool.not_true, cond_false]
    exact h1 _ (by simp [q1])
  · rcases q2 with q2 | q2
    · simp only [q1, q2, Bool.not_true, Bool.not_false, cond_false, cond_true]
      exact h1 _ (by simp [q2])
    · simp [q1, q2, sendN]
theorem ZiJ (n : Z8) (h : Zoq n) (dst : Int) (hd : U16 dst) (app : Bool) (ttl : Int) (b : List Int) (now : Int) (ev : List Zi) :
    Z2R dst app ttl b ⟨n, now⟩ ev = some ⟨(sendN n dst app ttl b now).2, ⟨(sendN n dst app ttl b now).1, now⟩, ev, n.Transport.Out, n.Transport.In⟩ := by
  have h2 : ¬ (nodeB dst = false ∧ Z4v dst = false) → ¬ ttl < 0 → ¬ ttl > 127 → flow ZE (.b2 dst app ttl b ⟨n, now⟩ ev) = some ⟨(sendN n dst app ttl b now).2, ⟨(sendN n dst app ttl b now).1, now⟩, ev, n.Transport.Out, n.Transport.In⟩ := fun c1 c2 c3 => (Z4 _ _).trans (by
    simp only [ZE, len0, Tr.den, flowJ, sendN, if_neg c1, if_neg c2, if_neg c3, beq_self_eq_true, Bool.and_self, cond_true]
    by_cases hb0 : b = []
    · simp [hb0]
    · by_cases hb : (b.length : Int) > 380
      · simp [hb0, hb]
      · have hacc := Zvb h dst app ttl b hb
        have hkey : ∀ w : Z05, Z3e w app = some (if app = true then w.Node.App else w.Node.Device) := fun w => (Z4 _ _).trans (by cases app <;> rfl)
        have hseal := ZdN (if app = true then n.App else n.Device) app ⟨n.Address, txv n.IV, n.Seq⟩ hacc.seq dst hd b (by omega)
        have hsend := Zg4 n.Transport h.tr _ hacc now
        obtain ⟨hlow, hblk⟩ := Zpx n.Transport ⟨n.Address, dst, app, ttl, ⟨n.Address, txv n.IV, n.Seq⟩, Z2n (if app = true then n.App else n.Device) app ⟨n.Address, txv n.IV, n.Seq⟩ dst b⟩ now
        have hblen := hacc.len
        simp only [decide_eq_false hb0, decide_eq_false hb, cond_false, if_neg hb0, if_neg hb, ZfY n.IV h.ok.iv, hkey, hseal, hsend, Option.bind_some, bne0, beq_self_eq_true, Bool.and_self, cond_true]
        revert hlow hblk
        generalize hS : sendV n.Transport _ now = S
        intro hlow hblk
        have key := Z5V (fun (s : Z8) i => flow ZE (.b3 dst ttl S.2.1 S.2.1.length i ⟨s, now⟩ ev n.Transport.Out n.Transport.In)) S.2.1 (own1 dst ttl now) (fun s => some ⟨0, ⟨s, now⟩, ev, n.Transport.Out, n.Transport.In⟩) (fun i s => Kept s { n with Transport := S.1 } i) (fun i s hi hs => by
            have hn' : ZfP ({ n with Transport := S.1 } : Z8) := ⟨h.ok.adr, h.ok.iv, h.ok.seq, h.ok.key, h.ok.low⟩
            have hok := hs.ok hn'
            have ho := hs.out
            have hout := h.out
            have hlen2 : s.Out.length ≤ 100000 := by
              have : ({ n with Transport := S.1 } : Z8).Out.length = n.Out.length := rfl
              omega
            refine ⟨(Z4 _ _).trans ?_, hs.step (Zou _ _ _ _ _ _ _)⟩
            have hb0' : U32 (S.2.1[i]).Block := by rw [hblk _ (List.getElem_mem hi)]; exact ⟨by decide, by decide⟩
            have e1 := Zj5 (Z8y s.Keys) s.Address dst ttl hok.adr hd S.2.1[i] hb0' s hok hlen2 now ev
            have e2 : ∀ w : Z05, Z23 w = some (Z8y w.Node.Keys) := fun w => (Z4 _ _).trans (by simp only [Z22, Zfh, Tr.den, flowJ, SL, SM])
            simp (disch := omega) only [ZE, hi, e1, e2, own1, Bool.and_self, Tr.den, flowJ, SL, SM])
          (fun s _ => (Z4 _ _).trans (by simp only [ZE, Int.lt_irrefl, Bool.and_self, Tr.den, flowJ, SL, SM])) { n with Transport := S.1 } ⟨rfl, rfl, rfl, rfl, h.ok.seq, Nat.le_refl _⟩
        by_cases hz : S.2.2 = 0
        · simp only [hz, decide_true, Bool.not_true, cond_false, if_true]
          exact key.1
        · simp only [if_neg hz, decide_eq_false hz, Bool.not_false, cond_true])
  have h1 : ¬ (nodeB dst = false ∧ Z4v dst = false) → flow ZE (.b1 dst app ttl b ⟨n, now⟩ ev) = some ⟨(sendN n dst app ttl b now).2, ⟨(sendN n dst app ttl b now).1, now⟩, ev, n.Transport.Out, n.Transport.In⟩ := fun c1 => (Z4 _ _).trans (by
    simp only [ZE, Tr.den, flowJ, beq_self_eq_true, Bool.and_self, cond_true]
    by_cases c2 : ttl < 0
    · simp [c2, sendN, c1]
    · by_cases c3 : ttl > 127
      · simp [c2, c3, sendN, c1]
      · rw [decide_eq_false c2, decide_eq_false c3]
        exact h2 c1 c2 c3)
  refine (Z4 _ _).trans ?_
  simp only [ZE, h.up, Z59, Z6A, Tr.den, flowJ, Option.bind_some, Bool.not_true, cond_false, beq_self_eq_true, Bool.and_self, cond_true]
  have q1 := Bool.eq_false_or_eq_true (nodeB dst)
  have q2 := Bool.eq_false_or_eq_true (Z4v dst)
  rcases q1 with q1 | q1
  · simp only [q1, Bool.not_true, cond_false]
    exact h1 (by simp [q1])
  · rcases q2 with q2 | q2
    · simp only [q1, q2, Bool.not_true, Bool.not_false, cond_false, cond_true]
      exact h1 (by simp [q2])
    · simp [q1, q2, sendN]
end Go.Proofs.YtefmbgacbhifdaaGreat
namespace Go.Proofs.YtefmbgacbhifdaaGreat
open Go Go.Proofs.YtefmbgacbhifdaaGreat.Le
set_option maxRecDepth 100000
theorem Z1X {R : Type} (F : Int → Option R) (n : Nat) (r : Option R) (hs : ∀ i : Nat, i < n → F i = F ((i + 1 : Nat) : Int)) (he : F (n : Int) = r) : F 0 = r := by
  have key : ∀ d i : Nat, i + d = n → F i = r := by
    intro d
    induction d with
    | zero => intro i hi; rw [show i = n by omega]; exact he
    | succ d ih => intro i hi; exact (hs i (by omega)).trans (ih (i + 1) (by omega))
  exact key n 0 (Nat.zero_add n)
theorem Zur (xs : List Int) : Le.bytesOf (xs.map (U.enc 5)) = some (xs.map fun n => UInt8.ofNat n.toNat) := by
  induction xs with
  | nil => rfl
  | cons x xs ih =>
    rw [List.map_cons]
    show (match Le.byteOf (U.enc 5 x), Le.bytesOf (xs.map (U.enc 5)) with | some b, some bs => some (b :: bs) | _, _ => none) = _
    rw [ih]
    rfl
theorem okB (xs : List Int) (h : xs.length ≤ 1000000) : Z4R U 5 xs = true := by
  unfold Z4R
  rw [Zur]
  exact decide_eq_true (by rw [List.length_map]; exact Nat.le_trans (Nat.le_trans h (by decide)) Z7s)
theorem Z2k {α : Type} [BEq α] [ReflBEq α] (x : α) : (x != x) = false := by simp [bne]
theorem Zbc (l : List Int) (h : l.length ≤ 1000000) : Z1S l l = some true := (Z4 _ _).trans (by
  simp only [Z11, Z2k, Tr.den, flowJ, cond_false]
  exact Z1X (fun i => flow Z11 (.b1 l l i)) l.length _
    (fun i hi => (Z4 _ _).trans (by simp (disch := omega) only [Z11, hi, Z2k, Tr.den, flowJ, SL, SM]))
    ((Z4 _ _).trans (by simp only [Z11, Int.lt_irrefl, Tr.den, flowJ, SL, SM])))
theorem ZjN (l : List (List Int)) (h : Z9i l) : Z3u l l = some true := (Z4 _ _).trans (by
  have h0 := h.len
  simp only [Z1B, Z2k, Tr.den, flowJ, cond_false]
  exact Z1X (fun i => flow Z1B (.b1 l l i)) l.length _
    (fun i hi => (Z4 _ _).trans (by
      have h1 := h.each l[i] (List.getElem_mem hi)
      simp (disch := omega) only [Z1B, hi, okB l[i] (by omega), Tr.den, flowJ, SL, SM]))
    ((Z4 _ _).trans (by simp only [Z1B, Int.lt_irrefl, Tr.den, flowJ, SL, SM])))
theorem ZiS (t : Z7) (h : TOK t) : Z2S t t = some true := (Z4 _ _).trans (by
  have h1 := h.lo; have h2 := h.li
  have k4 : flow Zl (.b4 0 t t) = some true :=
    Z1X (fun i => flow Zl (.b4 i t t)) t.In.length _
      (fun i hi => (Z4 _ _).trans (by
        have hp := ZjN _ (h.pi t.In[i] (List.getElem_mem hi))
        have h5 : flow Zl (.b5 i t t) = flow Zl (.b4 ((i + 1 : Nat) : Int) t t) := (Z4 _ _).trans (by simp (disch := omega) only [Zl, Tr.den, flowJ, SL, SM])
        simp (disch := omega) only [Zl, hi, Z2k, hp, h5, Tr.den, flowJ, SL, SM]))
      ((Z4 _ _).trans (by simp only [Zl, Int.lt_irrefl, Tr.den, flowJ, SL, SM]))
  have k2 : flow Zl (.b2 0 t t) = some true :=
    Z1X (fun i => flow Zl (.b2 i t t)) t.Out.length _
      (fun i hi => (Z4 _ _).trans (by
        have hp := ZjN _ (h.po t.Out[i] (List.getElem_mem hi))
        have h5 : flow Zl (.b3 i t t) = flow Zl (.b2 ((i + 1 : Nat) : Int) t t) := (Z4 _ _).trans (by simp (disch := omega) only [Zl, Tr.den, flowJ, SL, SM])
        simp (disch := omega) only [Zl, hi, Z2k, hp, h5, Tr.den, flowJ, SL, SM]))
      ((Z4 _ _).trans (by simp only [Zl, Int.lt_irrefl, k4, Tr.den, flowJ, SL, SM]))
  have k1 : flow Zl (.b1 t t) = some true := (Z4 _ _).trans (by simp only [Zl, k2, Tr.den, flowJ, SL, SM])
  simp only [Zl, Z2k, k1, Tr.den, flowJ, SL, SM])
structure Zry (f : Zk) : Prop where
  q : f.Queue.length ≤ 1000000
  s : f.Subs.length ≤ 1000000
  p : ∀ x ∈ f.Queue, x.PDU.Payload.length ≤ 1000000 ∧ x.Lower.Bytes.length ≤ 1000000
theorem Zqm (f : Zk) (h : Zry f) : Z4P f f = some true := (Z4 _ _).trans (by
  have h1 := h.q; have h2 := h.s
  have k2 : flow Zw (.b2 0 f f) = some true :=
    Z1X (fun i => flow Zw (.b2 i f f)) f.Queue.length _
      (fun i hi => (Z4 _ _).trans (by
        obtain ⟨p1, p2⟩ := h.p f.Queue[i] (List.getElem_mem hi)
        have h4 : flow Zw (.b4 i f f) = flow Zw (.b2 ((i + 1 : Nat) : Int) f f) := (Z4 _ _).trans (by simp (disch := omega) only [Zw, Tr.den, flowJ, SL, SM])
        have h3 : flow Zw (.b3 i f f f.Queue[i].Lower f.Queue[i].Lower) = flow Zw (.b2 ((i + 1 : Nat) : Int) f f) := (Z4 _ _).trans (by simp (disch := omega) only [Zw, Z2k, okB _ p2, h4, Tr.den, flowJ, SL, SM])
        simp (disch := omega) only [Zw, hi, Z2k, okB _ p1, h3, Tr.den, flowJ, SL, SM]))
      ((Z4 _ _).trans (by simp only [Zw, Int.lt_irrefl, Tr.den, flowJ, SL, SM]))
  have k1 : flow Zw (.b1 f f) = some true := (Z4 _ _).trans (by simp only [Zw, k2, Tr.den, flowJ, SL, SM])
  simp only [Zw, Zbc f.Subs h2, Z2k, k1, Tr.den, flowJ, SL, SM])
theorem Zwq (l : Zm) (h : l.Subs.length ≤ 1000000) : Z8A l l = some true := (Z4 _ _).trans (by
  simp only [Z8D, Zbc l.Subs h, Tr.den, flowJ, SL, SM])
def Zuu (l : List Zb) : Prop := l.length ≤ 1000000 ∧ ∀ x ∈ l, x.Bytes.length ≤ 1000000
theorem ZsJ (l : List Zb) (h : Zuu l) : Z5C l l = some true := (Z4 _ _).trans (by
  have h0 := h.1
  simp only [Z0q, Z2k, Tr.den, flowJ, cond_false]
  exact Z1X (fun i => flow Z0q (.b1 l l i)) l.length _
    (fun i hi => (Z4 _ _).trans (by
      have h1 := h.2 l[i] (List.getElem_mem hi)
      have h2 : flow Z0q (.b2 l l i) = flow Z0q (.b1 l l ((i + 1 : Nat) : Int)) := (Z4 _ _).trans (by simp (disch := omega) only [Z0q, Tr.den, flowJ, SL, SM])
      simp (disch := omega) only [Z0q, hi, Z2k, okB _ h1, h2, Tr.den, flowJ, SL, SM]))
    ((Z4 _ _).trans (by simp only [Z0q, Int.lt_irrefl, Tr.den, flowJ, SL, SM])))
structure ZcU (n : Z8) : Prop where
  groups : n.Groups.length ≤ 1000000
  cache : n.Cache.length ≤ 1000000
  replays : n.Replays.length ≤ 1000000
  tr : TOK n.Transport
  fr : Zry n.Friend
  low : n.Low.Subs.length ≤ 1000000
  out : Zuu n.Out
theorem Zve (n : Z8) (h : ZcU n) : Ze6 n n = some true := (Z4 _ _).trans (by
  have g1 := h.groups; have g2 := h.cache; have g3 := h.replays
  have k4 : flow Z0v (.b4 n n) = some true := (Z4 _ _).trans (by
    simp only [Z0v, Zbc n.Groups g1, ZiS _ h.tr, Zqm _ h.fr, Zwq _ h.low, ZsJ _ h.out, Tr.den, flowJ, SL, SM])
  have k3 : flow Z0v (.b3 0 n n) = some true :=
    Z1X (fun i => flow Z0v (.b3 i n n)) n.Replays.length _
      (fun i hi => (Z4 _ _).trans (by simp (disch := omega) only [Z0v, hi, Bool.and_self, Tr.den, flowJ, SL, SM]))
      ((Z4 _ _).trans (by simp only [Z0v, Int.lt_irrefl, Z2k, Bool.and_self, k4, Tr.den, flowJ, SL, SM]))
  have k2 : flow Z0v (.b2 0 n n) = some true :=
    Z1X (fun i => flow Z0v (.b2 i n n)) n.Cache.length _
      (fun i hi => (Z4 _ _).trans (by simp (disch := omega) only [Z0v, hi, Bool.and_self, Tr.den, flowJ, SL, SM]))
      ((Z4 _ _).trans (by simp only [Z0v, Int.lt_irrefl, k3, Tr.den, flowJ, SL, SM]))
  have k1 : flow Z0v (.b1 n n) = some true := (Z4 _ _).trans (by simp only [Z0v, k2, Tr.den, flowJ, SL, SM])
  simp only [Z0v, Z2k, k1, Tr.den, flowJ, SL, SM])
end Go.Proofs.YtefmbgacbhifdaaGreat
namespace Go.Proofs.YtefmbgacbhifdaaGreat
open Go Go.Proofs.YtefmbgacbhifdaaGreat.Le
set_option maxRecDepth 100000
theorem Z13 (n k : Nat) (h : n ≤ 1000000) (hk : k ≤ 1000) : n * k ≤ lim ∧ n ≤ maxLen :=
  ⟨Nat.le_trans (Nat.le_trans (Nat.mul_le_mul h hk) (by decide)) Zno, Nat.le_trans (Nat.le_trans h (by decide)) Z7s⟩
theorem Zru (l : List Int) (h : l.length ≤ 1000000) : Z0l l = some ⟨l⟩ := if_pos (Z13 _ _ h (by decide))
theorem Zlz (l : List Int) (h : l.length ≤ 1000000) : Z0p l = some ⟨l⟩ := if_pos (Z13 _ _ h (by decide))
theorem Zy3 (l : List Za) (h : l.length ≤ 1000000) : Z1q l = some ⟨l⟩ := if_pos (Z13 _ _ h (by decide))
theorem ZvS (l : List Za) (h : l.length ≤ 1000000) : Z16 l = some ⟨l⟩ := if_pos (Z13 _ _ h (by decide))
theorem Zt2 (l : List Z6) (h : l.length ≤ 1000000) : Z0G l = some ⟨l⟩ := if_pos (Z13 _ _ h (by decide))
theorem Zt0 (l : List Z9) (h : l.length ≤ 1000000) : Z0K l = some ⟨l⟩ := if_pos (Z13 _ _ h (by decide))
theorem Zw4 (l : List Ze) (h : l.length ≤ 1000000) : Z1b l = some ⟨l⟩ := if_pos (Z13 _ _ h (by decide))
theorem Zxt (l : List Zb) (h : l.length ≤ 1000000) : Z1o l = some ⟨l⟩ := if_pos (Z13 _ _ h (by decide))
theorem ZmW (t : Z7) : (⟨t.Out, t.In⟩ : Z7) = t := rfl
theorem ZtL (f : Zk) : (⟨f.Low, f.Queue, f.Subs, f.Bit, f.Sent, f.Polled, f.Counter, f.Dropped⟩ : Zk) = f := rfl
theorem Zv7 (l : Zm) : (⟨l.Phase, l.Friend, l.Bit, l.Counter, l.Due, l.Tries, l.Subs, l.Told, l.More, l.Last⟩ : Zm) = l := rfl
theorem Zoz (x : Zb) : (⟨x.Due, x.Bytes, x.To⟩ : Zb) = x := rfl
theorem ZvA (p : Zc) : (⟨p.IV, p.NID, p.Control, p.TTL, p.Seq, p.Src, p.Dst, p.Payload⟩ : Zc) = p := rfl
theorem ZmS (l : Z5) : (⟨l.Control, l.Segmented, l.App, l.Zero, l.Index, l.Last, l.Opcode, l.Block, l.Friend, l.Bytes⟩ : Z5) = l := rfl
theorem Zkb (q : Ze) : (⟨q.PDU, q.Lower⟩ : Ze) = q := rfl
theorem Z4d (n : Z8) : (⟨n.Address, n.Device, n.App, n.Keys, n.IV, n.Seq, n.Relay, n.Befriends, n.Groups, n.Cache, n.Replays, n.Transport, n.Friend, n.Low, n.Out, n.Stored, n.Up⟩ : Z8) = n := rfl
theorem ZfN (l : List (List Int)) (h : Z9i l) : Z6x l = some l := (Z4 _ _).trans (by
  have h0 := h.len
  simp only [Z34, mk_ok l.length 24 (by omega) (by decide), Tr.den, flowJ, Int.toNat_natCast, cond_true]
  have key : ∀ d i : Nat, i + d = l.length → flow Z34 (.b1 (l.take i ++ List.replicate d []) l l.length i) = some l := by
    intro d
    induction d with
    | zero =>
      intro i hi
      obtain rfl : i = l.length := by omega
      refine (Z4 _ _).trans ?_
      simp only [Z34, Int.lt_irrefl, List.take_length, List.replicate_zero, List.append_nil, Tr.den, flowJ, SL, SM]
    | succ d ih =>
      intro i hi
      have hlt : i < l.length := by omega
      have h1 := h.each l[i] (List.getElem_mem hlt)
      have hlen : (l.take i ++ List.replicate (d + 1) ([] : List Int)).length = l.length := by simp; omega
      have hset : (l.take i ++ List.replicate (d + 1) ([] : List Int)).set i l[i] = l.take (i + 1) ++ List.replicate d [] := by
        rw [List.set_append_right _ _ (by rw [List.length_take]; exact Nat.min_le_left _ _), List.length_take, Nat.min_eq_left (by omega), Nat.sub_self, List.replicate_succ, List.set_cons_zero, List.take_add_one, List.getElem?_eq_getElem hlt, List.append_assoc]
        rfl
      have hget : (l.take i ++ List.replicate (d + 1) ([] : List Int))[i]? = some [] := by
        rw [List.getElem?_append_right (by rw [List.length_take]; exact Nat.min_le_left _ _), List.length_take, Nat.min_eq_left (by omega), Nat.sub_self]
        rfl
      rw [← ih (i + 1) (by omega)]
      refine (Z4 _ _).trans ?_
      simp (disch := omega) only [Z34, hlt, Zru l[i] (by omega), hset, hget, hlen, List.length_set, Tr.den, flowJ, Int.natCast_nonneg, Int.ofNat_lt, Int.toNat_natCast, List.getElem?_eq_getElem hlt, Option.bind_some, beq_self_eq_true, decide_true, cond_true, true_and, Bool.and_true, Bool.and_self, Nat.zero_le, Zmk]
  simpa using key l.length 0 (Nat.zero_add _))
theorem Zmc (q : Ze) (h : q.PDU.Payload.length ≤ 1000000 ∧ q.Lower.Bytes.length ≤ 1000000) : Z5b q = some q := (Z4 _ _).trans (by
  simp only [Z7W, Zru _ h.1, Zru _ h.2, ZvA, ZmS, Zkb, Tr.den, flowJ, SL, SM])
theorem ZeX (n : Z8) (h : ZcU n) : Z7k n = some ⟨n⟩ := by
  have g1 := h.groups; have g2 := h.cache; have g3 := h.replays; have g4 := h.low; have g5 := h.fr.s; have g6 := h.fr.q; have g7 := h.out.1; have g8 := h.tr.lo; have g9 := h.tr.li
  have k4 : ∀ z, flow Z0c (.b4 n.Out n.Out.length 0 n z) = some ⟨n⟩ := fun z =>
    Z1X (fun i => flow Z0c (.b4 n.Out n.Out.length i n z)) n.Out.length _
      (fun i hi => (Z4 _ _).trans (by
        have hp := h.out.2 n.Out[i] (List.getElem_mem hi)
        simp (disch := omega) only [Z0c, hi, Zru _ hp, Zoz, Z4d, List.set_getElem_self, Nat.zero_le, Bool.and_self, Tr.den, flowJ, SL, SM]))
      ((Z4 _ _).trans (by simp only [Z0c, Int.lt_irrefl, Z4d, Bool.and_self, Tr.den, flowJ, SL, SM]))
  have k3 : ∀ z, flow Z0c (.b3 n.Friend.Queue n.Friend.Queue.length 0 n z) = some ⟨n⟩ := fun z =>
    Z1X (fun i => flow Z0c (.b3 n.Friend.Queue n.Friend.Queue.length i n z)) n.Friend.Queue.length _
      (fun i hi => (Z4 _ _).trans (by
        have hp := h.fr.p n.Friend.Queue[i] (List.getElem_mem hi)
        simp (disch := omega) only [Z0c, hi, Zmc _ hp, ZtL, Z4d, List.set_getElem_self, Nat.zero_le, Bool.and_self, Tr.den, flowJ, SL, SM]))
      ((Z4 _ _).trans (by simp only [Z0c, Int.lt_irrefl, Zlz _ g4, Zxt _ g7, Zv7, ZtL, Z4d, k4, Bool.and_self, Tr.den, flowJ, SL, SM]))
  have k2 : ∀ z, flow Z0c (.b2 n.Transport.In n.Transport.In.length 0 n z) = some ⟨n⟩ := fun z =>
    Z1X (fun i => flow Z0c (.b2 n.Transport.In n.Transport.In.length i n z)) n.Transport.In.length _
      (fun i hi => (Z4 _ _).trans (by
        have hp := ZfN _ (h.tr.pi n.Transport.In[i] (List.getElem_mem hi))
        simp (disch := omega) only [Z0c, hi, hp, ZqK, ZmW, Z4d, List.set_getElem_self, Nat.zero_le, Bool.and_self, Tr.den, flowJ, SL, SM]))
      ((Z4 _ _).trans (by simp only [Z0c, Int.lt_irrefl, Zlz _ g5, Zw4 _ g6, ZmW, ZtL, Z4d, k3, Bool.and_self, Tr.den, flowJ, SL, SM]))
  have k1 : ∀ z, flow Z0c (.b1 n.Transport.Out n.Transport.Out.length 0 n z) = some ⟨n⟩ := fun z =>
    Z1X (fun i => flow Z0c (.b1 n.Transport.Out n.Transport.Out.length i n z)) n.Transport.Out.length _
      (fun i hi => (Z4 _ _).trans (by
        have hp := ZfN _ (h.tr.po n.Transport.Out[i] (List.getElem_mem hi))
        simp (disch := omega) only [Z0c, hi, hp, Zl3, ZmW, Z4d, List.set_getElem_self, Nat.zero_le, Bool.and_self, Tr.den, flowJ, SL, SM]))
      ((Z4 _ _).trans (by simp only [Z0c, Int.lt_irrefl, Zt0 _ (show n.Transport.In.length ≤ 1000000 by omega), ZmW, Z4d, k2, Bool.and_self, Tr.den, flowJ, SL, SM]))
  refine (Z4 _ _).trans ?_
  simp only [Z0c, Zlz _ g1, Zy3 _ g2, ZvS _ g3, Zt2 _ (show n.Transport.Out.length ≤ 1000000 by omega), ZmW, Z4d, k1, Bool.and_self, Tr.den, flowJ, SL, SM]
theorem Zi6 (l : List (List Int)) (h : Z9i l) : Z8s l = some l := (Z4 _ _).trans (by
  have h0 := h.len
  simp only [Z40, Tr.den, flowJ, SL, SM]
  have key := Z5h (fun s i => flow Z40 (.b1 l s i)) l (fun x => [x]) some 1000 (fun i s hi hs => (Z4 _ _).trans (by
      have h1 := h.each l[i] (List.getElem_mem hi)
      simp (disch := omega) only [Z40, hi, Tr.den, flowJ, SL, SM]))
    (fun s => (Z4 _ _).trans (by simp only [Z40, Int.lt_irrefl, Tr.den, flowJ, SL, SM])) [] (by simpa using h0)
  simpa using key)
theorem ZsS (n : Z8) (h : ZcU n) : Zf0 n = some n := by
  have g1 := h.groups; have g2 := h.cache; have g3 := h.replays; have g4 := h.low; have g5 := h.fr.s; have g6 := h.fr.q; have g7 := h.out.1; have g8 := h.tr.lo; have g9 := h.tr.li
  have k4 : ∀ z, flow ZL (.b4 [] 0 n z) = some n := fun z => by
    have key := Z5h (fun s i => flow ZL (.b4 s i n z)) n.Out (fun x => [x]) (fun s => some { n with Out := s }) 1000000 (fun i s hi hs => (Z4 _ _).trans (by
        have hp := h.out.2 n.Out[i] (List.getElem_mem hi)
        simp only [List.length_cons, List.length_nil] at hs
        simp (disch := omega) only [ZL, hi, Zoz, Bool.and_self, Tr.den, flowJ, SL, SM]))
      (fun s => (Z4 _ _).trans (by simp only [ZL, Int.lt_irrefl, Bool.and_self, Tr.den, flowJ, SL, SM])) [] (by simpa using g7)
    simpa using key
  have k3 : ∀ z, flow ZL (.b3 [] 0 n z) = some n := fun z => by
    have key := Z5h (fun s i => flow ZL (.b3 s i n z)) n.Friend.Queue (fun x => [x]) (fun s => flow ZL (.b4 [] 0 { n with Friend := { n.Friend with Queue := s } } z)) 1000000 (fun i s hi hs => (Z4 _ _).trans (by
        have hp := h.fr.p n.Friend.Queue[i] (List.getElem_mem hi)
        obtain ⟨hp1, hp2⟩ := hp
        simp only [List.length_cons, List.length_nil] at hs
        simp (disch := omega) only [ZL, hi, ZvA, ZmS, Zkb, Bool.and_self, Tr.den, flowJ, SL, SM]))
      (fun s => (Z4 _ _).trans (by simp (disch := omega) only [ZL, Int.lt_irrefl, Zv7, Bool.and_self, Tr.den, flowJ, SL, SM])) [] (by simpa using g6)
    refine key.trans ?_
    have e : (n.Friend.Queue.flatMap fun x => [x]) = n.Friend.Queue := by simp
    rw [List.nil_append, e]
    exact k4 z
  have k2 : ∀ z, flow ZL (.b2 n.Transport.Out [] 0 n z) = some n := fun z => by
    have key := Z5h (fun s i => flow ZL (.b2 n.Transport.Out s i n z)) n.Transport.In (fun x => [x]) (fun s => flow ZL (.b3 [] 0 { n with Transport := ⟨n.Transport.Out, s⟩ } z)) 1000 (fun i s hi hs => (Z4 _ _).trans (by
        have hp := Zi6 _ (h.tr.pi n.Transport.In[i] (List.getElem_mem hi))
        simp only [List.length_cons, List.length_nil] at hs
        simp (disch := omega) only [ZL, hi, hp, ZqK, Bool.and_self, Tr.den, flowJ, SL, SM]))
      (fun s => (Z4 _ _).trans (by simp only [ZL, Int.lt_irrefl, Bool.and_self, Tr.den, flowJ, SL, SM])) [] (by simpa using g9)
    refine key.trans ?_
    have e : (n.Transport.In.flatMap fun x => [x]) = n.Transport.In := by simp
    rw [List.nil_append, e]
    exact k3 z
  have k1 : ∀ z, flow ZL (.b1 [] 0 n z) = some n := fun z => by
    have key := Z5h (fun s i => flow ZL (.b1 s i n z)) n.Transport.Out (fun x => [x]) (fun s => flow ZL (.b2 s [] 0 n z)) 1000 (fun i s hi hs => (Z4 _ _).trans (by
        have hp := Zi6 _ (h.tr.po n.Transport.Out[i] (List.getElem_mem hi))
        simp only [List.length_cons, List.length_nil] at hs
        simp (disch := omega) only [ZL, hi, hp, Zl3, Bool.and_self, Tr.den, flowJ, SL, SM]))
      (fun s => (Z4 _ _).trans (by simp only [ZL, Int.lt_irrefl, Bool.and_self, Tr.den, flowJ, SL, SM])) [] (by simpa using g8)
    refine key.trans ?_
    have e : (n.Transport.Out.flatMap fun x => [x]) = n.Transport.Out := by simp
    rw [List.nil_append, e]
    exact k2 z
  refine (Z4 _ _).trans ?_
  simp (disch := omega) only [ZL, Z4d, k1, Bool.and_self, Tr.den, flowJ, SL, SM]
end Go.Proofs.YtefmbgacbhifdaaGreat
namespace Go.Proofs.YtefmbgacbhifdaaGreat
open Go Go.Proofs.YtefmbgacbhifdaaGreat.Le
set_option maxRecDepth 100000
def Grown (m n : Z8) (c : Nat) : Prop := ∃ s st o, m = { n with Seq := s, Stored := st, Out := n.Out ++ o } ∧ o.length ≤ c ∧ ∀ x ∈ o, x.Bytes.length ≤ 1000
theorem Zv3 (k : Zd) (p : Zc) : (encNv k p).1.length ≤ 1000 := by
  unfold encNv
  split
  · rename_i h
    have := (Zik h).len
    split
    · simp only [encN, List.length_append, List.length_cons, List.length_nil, Z4h, hidev, ZH, Z8n, openv]
      omega
    · simp
  · simp
theorem ZsK (n : Z8) (k : Zd) (src dst ttl : Int) (l : Z5) (now : Int) : Grown (emitv n k src dst ttl l now) n 1 := by
  have h0 : Grown (takev n) n 1 := ⟨_, _, [], by simp [takev]; exact ⟨rfl, rfl⟩, by simp, (fun _ hx => nomatch hx)⟩
  unfold emitv
  split
  · split
    · refine ⟨_, _, [⟨now, (encNv k (pduv n k src dst ttl l)).1, 0⟩], rfl, by simp, fun x hx => ?_⟩
      rw [List.mem_singleton.1 hx]
      exact Zv3 _ _
    · exact h0
  · exact h0
theorem Grown.trans {a b c : Z8} {i j : Nat} (h : Grown b a i) (h' : Grown c b j) : Grown c a (i + j) := by
  obtain ⟨s, st, o, rfl, h1, h2⟩ := h
  obtain ⟨s', st', o', rfl, h1', h2'⟩ := h'
  refine ⟨s', st', o ++ o', by simp, by simp only [List.length_append]; omega, fun x hx => ?_⟩
  rcases List.mem_append.1 hx with h | h
  · exact h2 x h
  · exact h2' x h
theorem fold_grown (dst ttl now : Int) (ls : List Z5) (n : Z8) : Grown (ls.foldl (own1 dst ttl now) n) n ls.length := by
  induction ls generalizing n with
  | nil => exact ⟨n.Seq, n.Stored, [], by simp, by simp, (fun _ hx => nomatch hx)⟩
  | cons l ls ih =>
    rw [List.foldl_cons, List.length_cons, Nat.add_comm]
    exact (ZsK n _ _ _ _ _ _).trans (ih _)
theorem Grown.size {m n : Z8} {c : Nat} (h : Grown m n c) (hc : c ≤ 1000) (hn : ZcU n) (ho : n.Out.length ≤ 1000) : ZcU m := by
  obtain ⟨s, st, o, rfl, h1, h2⟩ := h
  refine ⟨hn.groups, hn.cache, hn.replays, hn.tr, hn.fr, hn.low, ?_, fun x hx => ?_⟩
  · show (n.Out ++ o).length ≤ 1000000
    rw [List.length_append]
    omega
  · rcases List.mem_append.1 hx with h | h
    · exact hn.out.2 x h
    · exact Nat.le_trans (h2 x h) (by decide)
noncomputable def sendF (n : Z8) (dst ttl now : Int) (S : Z7 × List Z5 × Int) : Z8 × Int := if S.2.2 = 0 then (S.2.1.foldl (own1 dst ttl now) { n with Transport := S.1 }, 0) else (n, S.2.2)
noncomputable def accV (n : Z8) (dst : Int) (app : Bool) (ttl : Int) (b : List Int) : Zt := ⟨n.Address, dst, app, ttl, ⟨n.Address, txv n.IV, n.Seq⟩, Z2n (if app = true then n.App else n.Device) app ⟨n.Address, txv n.IV, n.Seq⟩ dst b⟩
theorem ZlP (n : Z8) (dst : Int) (app : Bool) (ttl : Int) (b : List Int) (now : Int) : sendN n dst app ttl b now =
  if nodeB dst = false ∧ Z4v dst = false then (n, 1) else if ttl < 0 then (n, 5) else if ttl > 127 then (n, 5) else if b = [] then (n, 1) else if (b.length : Int) > 380 then (n, 4) else sendF n dst ttl now (sendV n.Transport (accV n dst app ttl b) now) := rfl
theorem Zsd {n : Z8} {dst : Int} {app : Bool} {ttl : Int} {b : List Int} {now : Int} (h : (sendN n dst app ttl b now).2 ≠ 0) : (sendN n dst app ttl b now).1 = n := by
  rw [ZlP] at h ⊢
  split
  · rfl
  · rename_i h1
    rw [if_neg h1] at h
    split
    · rfl
    · rename_i h2
      rw [if_neg h2] at h
      split
      · rfl
      · rename_i h3
        rw [if_neg h3] at h
        split
        · rfl
        · rename_i h4
          rw [if_neg h4] at h
          split
          · rfl
          · rename_i h5
            rw [if_neg h5] at h
            unfold sendF at h ⊢
            split
            · rename_i h6
              rw [if_pos h6] at h
              exact absurd rfl h
            · rfl
theorem ZhE (n : Z8) (h : Zoq n) (hz : ZcU n) (dst : Int) (hd : U16 dst) (app : Bool) (ttl : Int) (b : List Int) (now : Int) : Z5O n dst app ttl b now = some (sendN n dst app ttl b now) := by
  have h1 : Z7R ⟨n, now⟩ dst app ttl b 0 [] = some ⟨⟨(sendN n dst app ttl b now).1, now⟩, dst, app, ttl, b, (sendN n dst app ttl b now).2, [], n.Transport.Out, n.Transport.In⟩ := (Z4 _ _).trans (by
    simp only [Z7I, ZiJ n h dst hd app ttl b now, Bool.and_self, Tr.den, flowJ, SL, SM])
  have h2 : Zf7 n now dst app ttl b 0 = some ⟨(sendN n dst app ttl b now).1, [], dst, app, ttl, b, (sendN n dst app ttl b now).2⟩ := (Z4 _ _).trans (by
    simp only [Zeb, ZeX n hz, h1, Bool.and_self, Tr.den, flowJ, SL, SM])
  refine (Z4 _ _).trans ?_
  simp only [Zbu, h2, ZeX n hz, bne0, Bool.and_self, Tr.den, flowJ, SL, SM]
  by_cases he : (sendN n dst app ttl b now).2 = 0
  · simp only [he, decide_true, Bool.not_true, cond_false]
    exact congrArg some (Prod.ext rfl he.symm)
  · simp only [decide_eq_false he, Bool.not_false, cond_true]
    exact congrArg some (Prod.ext (Zsd he).symm rfl)
@[reducible] noncomputable def newv (a d p k : Int) (r f : Bool) : Z8 := ⟨a, d, p, ⟨0, netv k, Z6t⟩, Z0a, 0, r, f, [], [], [], ⟨[], []⟩, Z4z, Z2A, [], 0, true⟩
theorem Zfg (a d p k : Int) (r f : Bool) : Z3E a d p k r f = some (if nodeB a = true then (newv a d p k r f, 0) else (ZeC, 1)) := (Z4 _ _).trans (by
  simp only [Zem, Z59, Zgs, Tr.den, flowJ, Option.bind_some]
  cases nodeB a <;> rfl)
theorem size_empty (n : Z8) (h1 : n.Groups = []) (h2 : n.Cache = []) (h3 : n.Replays = []) (h4 : n.Transport = ⟨[], []⟩) (h5 : n.Friend = Z4z) (h6 : n.Low = Z2A) (h7 : n.Out = []) : ZcU n := by
  refine ⟨by simp [h1], by simp [h2], by simp [h3], ?_, ?_, by simp [h6], ?_⟩
  · rw [h4]; exact ⟨by simp, by simp, (fun _ hm => nomatch hm), (fun _ hm => nomatch hm)⟩
  · rw [h5]; exact ⟨by simp, by simp, (fun _ hm => nomatch hm)⟩
  · rw [h7]; exact ⟨by simp, (fun _ hm => nomatch hm)⟩
theorem ZwW : U32 0 := ⟨by decide, by decide⟩
theorem Zmn (a d p k : Int) (r f : Bool) (ha : U16 a) (hd : K64 d) (hp : K64 p) : Zoq (newv a d p k r f) :=
  ⟨⟨ha, ZwW, ZwW, ⟨Z5l _ _ _, Z5l _ _ _⟩, rfl⟩, rfl, Nat.zero_le _, (size_empty (newv a d p k r f) rfl rfl rfl rfl rfl rfl rfl).tr, hd, hp⟩
theorem ZxL (a : Zt) (ha : AccOK a) (now : Int) : TOK (sendV ⟨[], []⟩ a now).1 := by
  have h0 : TOK ⟨[], []⟩ := ⟨by simp, by simp, (fun _ hm => nomatch hm), (fun _ hm => nomatch hm)⟩
  unfold sendV
  split
  · split
    · exact h0
    · refine ⟨by simp, by simp, fun m hm => ?_, (fun _ hm => nomatch hm)⟩
      rw [show m = msgv a now by simpa using hm]
      exact (Ztu a ha now).parts
  · exact h0
theorem Zth (a d p k : Int) (r f : Bool) (ha : U16 a) (hd : K64 d) (hp : K64 p) (dst : Int) (app : Bool) (ttl : Int) (b : List Int) (now : Int) : ZcU (sendN (newv a d p k r f) dst app ttl b now).1 := by
  have h0 := size_empty (newv a d p k r f) rfl rfl rfl rfl rfl rfl rfl
  rw [ZlP]
  split
  · exact h0
  · split
    · exact h0
    · split
      · exact h0
      · split
        · exact h0
        · split
          · exact h0
          · rename_i h5
            have hacc : AccOK (accV (newv a d p k r f) dst app ttl b) := Zvb (Zmn a d p k r f ha hd hp) dst app ttl b h5
            have hlen := hacc.len
            obtain ⟨h1, _⟩ := Zpx (newv a d p k r f).Transport (accV (newv a d p k r f) dst app ttl b) now
            have ht : TOK (sendV (newv a d p k r f).Transport (accV (newv a d p k r f) dst app ttl b) now).1 := ZxL _ hacc now
            unfold sendF
            split
            · exact (fold_grown dst ttl now _ _).size (Nat.le_trans h1 (by omega)) ⟨h0.groups, h0.cache, h0.replays, ht, h0.fr, h0.low, h0.out⟩ (Nat.zero_le _)
            · exact h0
def Zb0 (n : Z8) : Z8 := { n with Seq := n.Stored, Cache := [], Transport := ⟨[], []⟩, Friend := Z4z, Low := Z2A, Out := [], Up := true }
theorem Zow (n : Z8) (h1 : n.Groups.length ≤ 1000000) (h2 : n.Replays.length ≤ 1000000) (now : Int) : Z6q n now = some (Zb0 n) := (Z4 _ _).trans (by
  have h0 : ZcU (Zb0 n) := by
    refine ⟨h1, Nat.zero_le _, h2, ?_, ?_, Nat.zero_le _, ?_⟩
    · exact ⟨by simp [Zb0], by simp [Zb0], (fun _ hm => nomatch hm), (fun _ hm => nomatch hm)⟩
    · exact ⟨Nat.zero_le _, Nat.zero_le _, (fun _ hm => nomatch hm)⟩
    · exact ⟨Nat.zero_le _, (fun _ hm => nomatch hm)⟩
  have := ZeX (Zb0 n) h0
  simp only [Z9P]
  rw [show ({ n with Seq := n.Stored, Cache := ([] : List Za), Transport := (⟨([] : List Z6), ([] : List Z9)⟩ : Z7), Friend := (⟨0, ([] : List Ze), ([] : List Int), 0, false, 0, 0, 0⟩ : Zk), Low := (⟨0, 0, 0, 0, 0, 0, ([] : List Int), 0, false, 0⟩ : Zm), Out := ([] : List Zb), Up := true } : Z8) = Zb0 n from rfl, this]
  simp only [Bool.and_self, Tr.den, flowJ, SL, SM])
theorem Zst (n : Z8) (h1 : n.Out = []) (h2 : n.Transport = ⟨[], []⟩) (h3 : n.Low.Phase = 0) : Z2Q n = some true := (Z4 _ _).trans (by
  have hi : Z0P [] = some ⟨-1⟩ := (Z4 _ _).trans ((Z4 Z0R (.b1 [] 0 0)).trans rfl)
  have hc : Z0y [] = some ⟨false⟩ := (Z4 _ _).trans (by simp only [Z0B, hi, Tr.den, flowJ, Option.bind_some]; rfl)
  simp only [Z7O, h1, h2, h3, hc, Tr.den, flowJ]
  rfl)
theorem Zwl (n : Z8) (h1 : n.Out ≠ []) : Z2Q n = some false := (Z4 _ _).trans (by
  simp only [Z7O, len0, h1, Tr.den, flowJ, decide_false, cond_false])
theorem ZvP (k : Int) : ∃ B : List Int, B.length = 19 ∧ sendN (newv 5 1 2 k true true) 9 true 7 [1] 0 = (outv (takev (newv 5 1 2 k true true)) 0 B, 0) := by
  have hs : ∀ id, (Z2n 2 true id 9 [1]).length = 5 := fun id => by rw [Z2n, ZiA]; rfl
  generalize hid : (⟨5, txv Z0a, 0⟩ : Za) = id
  generalize hS : Z2n 2 true id 9 [1] = S
  have hS5 : S.length = 5 := by rw [← hS]; exact hs id
  have hne : S ≠ [] := fun h => by rw [h] at hS5; cases hS5
  have hidseq : id.Seq = 0 := by rw [← hid]
  have href : Z9c ⟨[], []⟩ ⟨5, 9, true, 7, id, S⟩ = 0 := by
    simp [Z9c, Z8u, hne, hS5, hidseq, Z2B, nodeB]
  have hsend : sendV ⟨[], []⟩ ⟨5, 9, true, 7, id, S⟩ 0 = (⟨[], []⟩, [⟨false, false, true, 0, 0, 0, 0, 0, false, S⟩], 0) := by
    unfold sendV
    rw [if_pos href, if_pos (by show (S.length : Int) ≤ 15; omega)]
  have hchk : Z8E ⟨false, false, true, 0, 0, 0, 0, 0, false, S⟩ = 0 := by
    simp [Z8E, Z6D, Z7Q, ZaW, Zbi, restB, Z6b, isAck, hS5]
  have henc : encTv ⟨false, false, true, 0, 0, 0, 0, 0, false, S⟩ = (num 1 64 ++ S, 0) := by
    unfold encTv
    rw [if_pos hchk]
    rfl
  have hnid := Z5l k (⟨#[110, 105, 100]⟩ : ByteArray) []
  have hp : ∃ p, p = pduv (newv 5 1 2 k true true) (netv k) 5 9 7 ⟨false, false, true, 0, 0, 0, 0, 0, false, S⟩ := ⟨_, rfl⟩
  obtain ⟨p, hp⟩ := hp
  have hpay : p.Payload = num 1 64 ++ S := by rw [hp, pduv, henc]
  have hplen : p.Payload.length = 6 := by rw [hpay, List.length_append, ZH, hS5]
  have hpn : p.NID = (netv k).NID := by rw [hp]; rfl
  have hpr : 0 ≤ p.NID ∧ p.NID < 128 := by
    rw [hpn]
    show 0 ≤ Z48 k _ [] % 128 ∧ Z48 k _ [] % 128 < 128
    omega
  have hpt : p.TTL = 7 := by rw [hp]; rfl
  have hps : p.Seq = 0 := by rw [hp]; rfl
  have hpa : p.Src = 5 := by rw [hp]; rfl
  have hpd : p.Dst = 9 := by rw [hp]; rfl
  have hcn : checkN p = 0 := by
    unfold checkN Zbp ZbZ
    have e1 : ¬ p.NID < 0 := by omega
    have e2 : ¬ p.NID ≥ 128 := by omega
    have e3 : p.Payload ≠ [] := fun h => by rw [h] at hplen; cases hplen
    simp [e1, e2, e3, hpt, hps, hpa, hpd, hplen, nodeB]
  have hen : encNv (netv k) p = (encN (netv k) p, 0) := by
    unfold encNv
    rw [if_pos hcn, if_pos hpn]
  refine ⟨encN (netv k) p, ?_, ?_⟩
  · simp only [encN, List.length_append, List.length_cons, List.length_nil, Z4h, hidev, ZH, Z8n, openv, hplen]
    rfl
  · rw [ZlP, if_neg (by decide), if_neg (by decide), if_neg (by decide), if_neg (by decide), if_neg (by decide)]
    show sendF (newv 5 1 2 k true true) 9 7 0 (sendV ⟨[], []⟩ ⟨5, 9, true, 7, ⟨5, txv Z0a, 0⟩, Z2n 2 true ⟨5, txv Z0a, 0⟩ 9 [1]⟩ 0) = _
    rw [hid, hS, hsend]
    show (own1 9 7 0 (newv 5 1 2 k true true) ⟨false, false, true, 0, 0, 0, 0, 0, false, S⟩, (0 : Int)) = _
    have : own1 9 7 0 (newv 5 1 2 k true true) ⟨false, false, true, 0, 0, 0, 0, 0, false, S⟩ = outv (takev (newv 5 1 2 k true true)) 0 (encN (netv k) p) := by
      show emitv (newv 5 1 2 k true true) (netv k) 5 9 7 ⟨false, false, true, 0, 0, 0, 0, 0, false, S⟩ 0 = _
      unfold emitv
      rw [← hp, hen, henc, if_pos rfl, if_pos rfl]
    rw [this]
theorem ZkT : Z8g = some true := by
  have h1 : Z3E 0 1 2 3 true true = some (ZeC, 1) := Zfg 0 1 2 3 true true
  have h2 : Z3E 5 1 2 3 true true = some (newv 5 1 2 3 true true, 0) := Zfg 5 1 2 3 true true
  obtain ⟨B, hB, hs⟩ := ZvP 3
  have h3 : Z5O (newv 5 1 2 3 true true) 9 true 7 [1] 0 = some (outv (takev (newv 5 1 2 3 true true)) 0 B, 0) := by
    rw [ZhE _ (Zmn 5 1 2 3 true true ⟨by decide, by decide⟩ ⟨by decide, by decide⟩ ⟨by decide, by decide⟩) (size_empty _ rfl rfl rfl rfl rfl rfl rfl) 9 ⟨by decide, by decide⟩, hs]
  have h4 : Z6q (outv (takev (newv 5 1 2 3 true true)) 0 B) 0 = some (Zb0 (outv (takev (newv 5 1 2 3 true true)) 0 B)) := Zow _ (Nat.zero_le _) (Nat.zero_le _) 0
  have h5 : Z2Q (Zb0 (outv (takev (newv 5 1 2 3 true true)) 0 B)) = some true := Zst _ rfl rfl rfl
  have h6 : Z2Q (outv (takev (newv 5 1 2 3 true true)) 0 B) = some false := Zwl _ (by simp [outv])
  refine (Z4 _ _).trans ?_
  simp only [Z7S, h1, h2, h3, h4, h5, h6, Tr.den, flowJ, Option.bind_some, List.length_cons, List.length_nil]
  have e1 : (outv (takev (newv 5 1 2 3 true true)) 0 B).Out = [⟨0, B, 0⟩] := rfl
  have e2 : (outv (takev (newv 5 1 2 3 true true)) 0 B).Seq = 1 := rfl
  have e3 : (outv (takev (newv 5 1 2 3 true true)) 0 B).Stored = 100 := rfl
  have e4 : (Zb0 (outv (takev (newv 5 1 2 3 true true)) 0 B)).Seq = 100 := rfl
  have e5 : (Zb0 (outv (takev (newv 5 1 2 3 true true)) 0 B)).Out = [] := rfl
  rw [e1, e2, e3, e4, e5]
  simp [hB]
theorem Ze7 (x : Z04) (ha : U16 x.A) (hdev : K64 x.Device) (happ : K64 x.App) (dst : Int) (hd : U16 dst) (app : Bool) (ttl : Int) (b : List Int) : Z7u x dst app ttl b = some true := (Z4 _ _).trans (by
  simp only [Z3I, ZkT, Tr.den, flowJ, Option.bind_some, Bool.not_true, cond_false]
  by_cases hl : (b.length : Int) > 4096
  · rw [decide_eq_true hl]; rfl
  · rw [decide_eq_false hl]
    simp only [cond_false, Zfg, Option.bind_some, bne0]
    cases hn : nodeB x.A with
    | false => rfl
    | true =>
      have hsz := size_empty (newv x.A x.Device x.App x.Net x.Relay x.Friends) rfl rfl rfl rfl rfl rfl rfl
      have hso := Zmn x.A x.Device x.App x.Net x.Relay x.Friends ha hdev happ
      have hs2 := Zve _ (Zth x.A x.Device x.App x.Net x.Relay x.Friends ha hdev happ dst app ttl b 3)
      simp (disch := omega) only [if_true, ZsS _ hsz, ZhE _ hso hsz dst hd app ttl b 3, ZsY _ hso dst hd app ttl b 3, hs2, Tr.den, flowJ, SL, SM])
end Go.Proofs.YtefmbgacbhifdaaGreat
