/-
  An evaluator for the model's code over pure values: arithmetic, comparisons, conversions.
-/
import Derived.Test.YtcjccaonfgcakaaLe12
import Derived.OpenShut
namespace Go.Proofs.Ytcjccaonfgcakaa.Le
set_option linter.unusedVariables false
open Go.RowKit (Below)

theorem wf_iff (k : IntKind) (n : Int) : (Lit.int k n).wf = true ↔ k.min ≤ n ∧ n ≤ k.max := by simp [Lit.wf]
theorem kind_zero (k : IntKind) : k.min ≤ 0 ∧ 0 ≤ k.max := by cases k <;> decide
theorem wf_between {k : IntKind} {a n : Int} (h : (Lit.int k a).wf = true) (hn : (0 ≤ a ∧ 0 ≤ n ∧ n ≤ a) ∨ (a ≤ 0 ∧ a ≤ n ∧ n ≤ 0)) : (Lit.int k n).wf = true := by
  rw [wf_iff] at h ⊢
  have := kind_zero k
  omega

theorem tmod_between (a b : Int) : (0 ≤ a ∧ 0 ≤ a.tmod b ∧ a.tmod b ≤ a) ∨ (a ≤ 0 ∧ a ≤ a.tmod b ∧ a.tmod b ≤ 0) := by
  have key : ∀ x : Int, 0 ≤ x → 0 ≤ x.tmod b ∧ x.tmod b ≤ x := by
    intro x hx
    rw [Int.tmod_eq_emod_of_nonneg hx]
    by_cases hb : b = 0
    · subst hb; simp [hx]
    · refine ⟨Int.emod_nonneg x hb, ?_⟩
      have h1 := Int.emod_nonneg x hb
      have h2 := Int.mul_ediv_add_emod x b
      have h3 : 0 ≤ b * (x / b) := by
        rcases Int.lt_or_gt_of_ne hb with hb | hb
        · exact Int.mul_nonneg_of_nonpos_of_nonpos (by omega) (Int.ediv_nonpos_of_nonneg_of_nonpos hx (by omega))
        · exact Int.mul_nonneg (by omega) (Int.ediv_nonneg hx (by omega))
      omega
  rcases Int.le_total 0 a with h | h
  · exact .inl ⟨h, key a h⟩
  · right
    have := key (-a) (by omega)
    rw [Int.neg_tmod] at this
    omega

theorem fdiv_between (a : Int) (n : Nat) : (0 ≤ a ∧ 0 ≤ a.fdiv (2 ^ n) ∧ a.fdiv (2 ^ n) ≤ a) ∨ (a ≤ 0 ∧ a ≤ a.fdiv (2 ^ n) ∧ a.fdiv (2 ^ n) ≤ 0) := by
  have hp : (0 : Int) < 2 ^ n := Int.pow_pos (by decide)
  rw [Int.fdiv_eq_ediv_of_nonneg _ (Int.le_of_lt hp)]
  have h2 := Int.mul_ediv_add_emod a (2 ^ n)
  have h3 := Int.emod_nonneg a (Int.ne_of_gt hp)
  have h4 := Int.emod_lt_of_pos a hp
  rcases Int.le_total 0 a with h | h
  · refine .inl ⟨h, Int.ediv_nonneg h (Int.le_of_lt hp), Int.ediv_le_self _ h⟩
  · right
    have h5 : a / 2 ^ n ≤ 0 := by
      rcases Int.lt_or_eq_of_le h with hl | he
      · exact Int.le_of_lt (Int.ediv_neg_of_neg_of_pos hl hp)
      · rw [he]; simp
    refine ⟨h, ?_, h5⟩
    rw [Int.le_ediv_iff_mul_le hp]
    have h1 : (1 : Int) ≤ 2 ^ n := hp
    have := Int.mul_le_mul_of_nonneg_left h1 (show 0 ≤ -a by omega)
    rw [Int.mul_one, Int.neg_mul] at this
    omega

theorem eqGuard_plain {P : Program} {w : World} (op : BinOp) (t : TypeId) (x y : Operand) (a b : Value) (h1 : ∀ cs, a ≠ .agg cs) (h2 : a ≠ .nilIface) : (eqGuard op t x y a b).run P w = .ok () w := by
  unfold eqGuard
  cases a <;> first | exact absurd rfl h2 | exact absurd rfl (h1 _) | (cases op <;> cases b <;> rfl)

/-- Integers. -/
theorem int_ok {P : Program} {w : World} {op : BinOp} {t : TypeId} {k : IntKind} {a b : Int} {r : Value} (ha : leaf (.int k a) = true) (hs : op ≠ .shl ∧ op ≠ .shr) (hr : intOp op k a b = some r) :
    (binOp op t (.int k a) (.int k b)).run P w = .ok r w ∧ leaf r = true := by
  have ha' : (Lit.int k a).wf = true := by simpa [leaf] using ha
  cases op <;> simp only [intOp, Option.some.injEq, reduceCtorEq] at hr
  all_goals try (exact absurd rfl hs.1)
  all_goals try (exact absurd rfl hs.2)
  all_goals try (subst hr; refine ⟨?_, rfl⟩; simp [binOp, Op.intCmp]; done)
  all_goals try (subst hr; refine ⟨?_, show (Lit.int _ _).wf = true from wf_wrap _ _⟩; simp [binOp, Op.intArith]; done)
  all_goals try (subst hr; refine ⟨?_, show (Lit.int _ _).wf = true from wf_bits _ _ _ _⟩; simp [binOp, Op.intBits, bits]; done)
  all_goals (split at hr)
  all_goals try (cases hr; done)
  all_goals rename_i hb
  all_goals simp only [Option.some.injEq] at hr
  all_goals subst hr
  · exact ⟨by simp [binOp, Op.intDiv, hb], show (Lit.int _ _).wf = true from wf_wrap _ _⟩
  · exact ⟨by simp [binOp, Op.intDiv, hb], show (Lit.int _ _).wf = true from wf_between ha' (tmod_between a b)⟩

theorem shift_ok {P : Program} {w : World} {op : BinOp} {t : TypeId} {k j : IntKind} {a b : Int} {r : Value} (ha : leaf (.int k a) = true) (hs : op = .shl ∨ op = .shr) (hr : shiftOp op k a b = some r) :
    (binOp op t (.int k a) (.int j b)).run P w = .ok r w ∧ leaf r = true := by
  have ha' : (Lit.int k a).wf = true := by simpa [leaf] using ha
  unfold shiftOp at hr
  split at hr
  · cases hr
  · rename_i hb
    rcases hs with rfl | rfl
    · simp only [Option.some.injEq] at hr
      subst hr
      exact ⟨by simp [binOp, Op.shift, hb], show (Lit.int _ _).wf = true from wf_wrap _ _⟩
    · simp only [Option.some.injEq] at hr
      subst hr
      exact ⟨by simp [binOp, Op.shift, hb], show (Lit.int _ _).wf = true from wf_between ha' (fdiv_between a _)⟩

theorem str_ok {P : Program} {w : World} {op : BinOp} {t : TypeId} {a b : ByteArray} {r : Value} (hr : strOp op a b = some r) :
    (binOp op t (.string a) (.string b)).run P w = .ok r w ∧ leaf r = true := by
  cases op <;> simp only [strOp, Option.some.injEq, reduceCtorEq] at hr
  · split at hr
    · rename_i hc
      simp only [decide_eq_true_eq] at hc
      simp only [Option.some.injEq] at hr
      subst hr
      have h63 : ¬ (9223372036854775807 < ((a.size + b.size : Nat) : Int)) := by simp [maxLen] at hc; omega
      refine ⟨?_, by simpa [leaf] using hc⟩
      simp only [binOp, Op.stringOp]
      have : IntKind.i64.max = 9223372036854775807 := rfl
      rw [if_neg (by rw [this]; omega)]
      rfl
    · cases hr
  all_goals (subst hr; exact ⟨by simp [binOp, Op.stringOp], rfl⟩)

end Go.Proofs.Ytcjccaonfgcakaa.Le
