/-
  The latency functions: what they come to.
-/
import Derived.Test.YtcjccaonfgcakaaFa
namespace Go.Proofs.Ytcjccaonfgcakaa
open Go Go.Proofs.Ytcjccaonfgcakaa.Le
set_option linter.unusedVariables false

def clamp (n : Int) : Int := max 0 (min n 499)
theorem clamp_bd (n : Int) : 0 ≤ clamp n ∧ clamp n ≤ 499 := by unfold clamp; omega
theorem cl1 (n : Int) : (if (499 : Int) < (if (0 : Int) > n then (0 : Int) else n) then (499 : Int) else (if (0 : Int) > n then (0 : Int) else n)) = clamp n := by unfold clamp; split <;> split <;> omega
theorem cl2 (n : Int) : (if (if (499 : Int) < n then (499 : Int) else n) > (0 : Int) then (if (499 : Int) < n then (499 : Int) else n) else (0 : Int)) = clamp n := by unfold clamp; split <;> split <;> omega

theorem w64_of {n : Int} (h : -9223372036854775808 ≤ n) (h' : n ≤ 9223372036854775807) : w64 n = n := by
  simp only [w64, IntKind.wrap, IntKind.signed, IntKind.bits]
  simp
  omega

theorem v27 (n : Int) : m27 n = some ⟨clamp n, 0, true⟩ := (flow_eq _ _).trans (by simp only [T27, Tr.den, flowJ, cl1])
theorem v28 (n : Int) : m28 n = some ⟨clamp n, 0, true⟩ := (flow_eq _ _).trans (by simp only [T28, Tr.den, flowJ, cl2])
theorem v29 (l : api_Listening) (n : Int) : m29 l n = some ⟨clamp n, 0, true⟩ := (flow_eq _ _).trans (by simp only [T29, Tr.den, flowJ, v27, Option.bind_some])
theorem v30 (l : api_Listening) (n : Int) : m30 l n = some ⟨clamp n, 0, true⟩ := (flow_eq _ _).trans (by simp only [T30, Tr.den, flowJ, v28, Option.bind_some])
def must (l : api_Listening) (b : Bool) : Bool := l.Full || (b || decide (l.Skipped ≥ l.Latency))
theorem v31 (l : api_Listening) (b : Bool) : m31 l b = some (must l b) := (flow_eq _ _).trans (by
  simp only [T31, Tr.den, flowJ, must]
  cases l.Full <;> cases b <;> simp
  cases decide (l.Latency ≤ l.Skipped) <;> rfl)
theorem v32 (l : api_Listening) (b : Bool) : m32 l b = some (must l b) := (flow_eq _ _).trans (by
  simp only [T32, Tr.den, flowJ, must]
  cases l.Full <;> cases b <;> simp)
def skip (l : api_Listening) : api_Listening × Int := if must l false then (l, 9) else (⟨l.Latency, w64 (l.Skipped + 1), l.Full⟩, 0)
theorem v33 (l : api_Listening) : m33 l = some (skip l) := (flow_eq _ _).trans (by
  simp only [T33, Tr.den, flowJ, v31, Option.bind_some, skip]
  cases must l false <;> rfl)
theorem v34 (l : api_Listening) : m34 l = some (skip l) := (flow_eq _ _).trans (by
  simp only [T34, Tr.den, flowJ, v32, Option.bind_some, skip]
  cases must l false <;> rfl)
def attend (l : api_Listening) (a : Bool) : api_Listening := ⟨l.Latency, 0, l.Full && !a⟩
theorem v35 (l : api_Listening) (a : Bool) : m35 l a = some (attend l a) := (flow_eq _ _).trans (by
  simp only [T35, Tr.den, flowJ, attend]
  cases l.Full <;> rfl)
theorem v36 (l : api_Listening) (a : Bool) : m36 l a = some (attend l a) := (flow_eq _ _).trans (by
  simp only [T36, Tr.den, flowJ, attend]
  cases a <;> simp)

theorem true10 (x : Args U [31, 3]) : M10.fn x = some true := by
  show m10 x.1 x.2.1 = some true
  refine (flow_eq _ _).trans ?_
  simp [T10, Tr.den, flowJ, m26, v27, v28, v29, v30]
theorem true11 (x : Args U [31, 4]) : M11.fn x = some true := by
  show m11 x.1 x.2.1 = some true
  refine (flow_eq _ _).trans ?_
  simp [T11, Tr.den, flowJ, m26, v31, v32]
theorem true12 (x : Args U [31, 4]) : M12.fn x = some true := by
  show m12 x.1 x.2.1 = some true
  refine (flow_eq _ _).trans ?_
  simp [T12, Tr.den, flowJ, m26, v33, v34, v35, v36]

section
variable (ts : List wirelesslaw25_Turn)

theorem s5 (b s : Int) (f : Bool) (i : Int) (l : api_Listening) : flow T13 (.b5 ts b s f i l) = flow T13 (.b1 ts b s f (w64 (i + 1)) l) := flow_eq _ _
theorem s3 {b s : Int} {f : Bool} (i : Int) (l : api_Listening) (h1 : s ≤ b) (h2 : f = true → s = 0) : flow T13 (.b3 ts b s f i l) = flow T13 (.b5 ts b s f i l) := by
  refine (flow_eq _ _).trans ?_
  simp only [T13, Tr.den, flowJ]
  have e1 : decide (s > b) = false := by simp; omega
  rw [e1]
  cases f with
  | false => rfl
  | true =>
    have e2 : decide (s > 0) = false := by simp [h2 rfl]
    rw [e2]
    rfl
theorem s4 (b s : Int) (f : Bool) (i : Int) (l k : api_Listening) : flow T13 (.b4 ts b s f i l k) = flow T13 (.b3 ts b s f i k) := flow_eq _ _
theorem s2 (b s : Int) (f : Bool) (i e : Int) (l k : api_Listening) : flow T13 (.b2 ts b s f i e l k) = flow T13 (.b4 ts b (if e = 0 then w64 (s + 1) else s) f i l k) := by
  refine (flow_eq _ _).trans ?_
  simp only [T13, Tr.den, flowJ]
  by_cases he : e = 0
  · simp [he]
  · rw [show (e == 0) = false by simpa using he]; simp [he]

theorem loop13 (hlen : ts.length ≤ 200) : ∀ (k i : Nat) (b s : Int) (f : Bool), i + k = ts.length → 0 ≤ b → b ≤ 499 → 0 ≤ s → s ≤ b → (f = true → s = 0) → flow T13 (.b1 ts b s f i ⟨b, s, f⟩) = some true := by
  intro k
  induction k with
  | zero =>
    intro i b s f hi h1 h2 h3 h4 h5
    refine (flow_eq _ _).trans ?_
    simp only [T13, Tr.den, flowJ]
    rw [show decide ((i : Int) < (ts.length : Int)) = false by simp; omega]
    rfl
  | succ k ih =>
    intro i b s f hi h1 h2 h3 h4 h5
    have hw : w64 ((i : Int) + 1) = ((i + 1 : Nat) : Int) := by rw [w64_of (by omega) (by omega)]; simp
    have step : ∀ {b' s' : Int} {f' : Bool}, 0 ≤ b' → b' ≤ 499 → 0 ≤ s' → s' ≤ b' → (f' = true → s' = 0) → flow T13 (.b3 ts b' s' f' i ⟨b', s', f'⟩) = some true := by
      intro b' s' f' q1 q2 q3 q4 q5
      rw [s3 ts _ _ q4 q5, s5, hw]
      exact ih (i + 1) b' s' f' (by omega) q1 q2 q3 q4 q5
    have hx : ∃ x, ts[i]? = some x := ⟨ts[i]'(by omega), List.getElem?_eq_getElem _⟩
    obtain ⟨x, hx⟩ := hx
    refine (flow_eq _ _).trans ?_
    simp only [T13, Tr.den, flowJ]
    rw [show decide ((i : Int) < (ts.length : Int)) = true by simp; omega]
    rw [show decide (0 ≤ (i : Int) ∧ (i : Int) < (ts.length : Int)) = true by simp; omega]
    simp only [cond_true, Int.toNat_natCast, hx, Option.bind_some, v33, v31, v35, v29, cl2]
    by_cases d0 : x.Do = 0
    · simp only [d0, beq_self_eq_true, cond_true, skip]
      by_cases hm : must ⟨b, s, f⟩ false = true
      · simp only [hm, if_true]
        simp [s2, s4]
        exact step h1 h2 h3 h4 h5
      · have hm' : must ⟨b, s, f⟩ false = false := by simpa using hm
        have hf : f = false ∧ s < b := by
          simp only [must, Bool.false_or, Bool.or_eq_false_iff, decide_eq_false_iff_not] at hm'
          exact ⟨hm'.1, by omega⟩
        obtain ⟨rfl, hs⟩ := hf
        simp only [hm', Bool.false_eq_true, if_false]
        simp [s2, s4]
        rw [w64_of (by omega) (by omega)]
        exact step h1 h2 (by omega) (by omega) (by simp)
    · rw [show (x.Do == 0) = false by simpa using d0]
      simp only [cond_false]
      by_cases d1 : x.Do = 1
      · simp only [d1, beq_self_eq_true, cond_true, attend]
        cases f with
        | true => exact step h1 h2 (by omega) (by omega) (fun _ => rfl)
        | false => exact step h1 h2 (by omega) (by omega) (fun h => by cases h)
      · rw [show (x.Do == 1) = false by simpa using d1]
        simp only [cond_false]
        by_cases d2 : x.Do = 2
        · simp only [d2, beq_self_eq_true, cond_true]
          exact step (clamp_bd _).1 (clamp_bd _).2 (by omega) (clamp_bd _).1 (fun _ => rfl)
        · rw [show (x.Do == 2) = false by simpa using d2]
          simp only [cond_false]
          exact step h1 h2 h3 h4 h5
end

theorem true13 (x : Args U [3, 40]) : M13.fn x = some true := by
  show m13 x.1 x.2.1 = some true
  refine (flow_eq _ _).trans ?_
  simp only [T13, Tr.den, flowJ, m26, Option.bind_some, Bool.not_true, cond_false, v27, cl2]
  by_cases h : decide (((x.2.1 : List wirelesslaw25_Turn).length : Int) > 200) = true
  · rw [h]; rfl
  · rw [show decide (((x.2.1 : List wirelesslaw25_Turn).length : Int) > 200) = false by simpa using h]
    simp only [cond_false]
    have hl : (x.2.1 : List wirelesslaw25_Turn).length ≤ 200 := by simp at h; omega
    exact loop13 x.2.1 hl (x.2.1 : List wirelesslaw25_Turn).length 0 _ _ _ (by simp) (clamp_bd _).1 (clamp_bd _).2 (by omega) (clamp_bd _).1 (fun _ => rfl)

theorem loop14 (n : Int) : ∀ (k : Nat) (c : Nat), c + k = 500 → (c : Int) ≤ clamp n → flow T14 (.b1 n c c ⟨clamp n, c, false⟩) = some true := by
  intro k
  induction k with
  | zero =>
    intro c hc hle
    have := (clamp_bd n).2
    omega
  | succ k ih =>
    intro c hc hle
    have hb := clamp_bd n
    refine (flow_eq _ _).trans ?_
    simp only [T14, Tr.den, flowJ]
    rw [show decide ((c : Int) < 500) = true by simp; omega]
    simp only [cond_true, v33, Option.bind_some, skip, must, Bool.false_or]
    by_cases hlt : (c : Int) < clamp n
    · rw [show decide ((c : Int) ≥ clamp n) = false by simp; omega]
      simp only [Bool.false_eq_true, if_false]
      rw [w64_of (by omega) (by omega)]
      have := ih (c + 1) (by omega) (by omega)
      simpa using this
    · have he : (c : Int) = clamp n := by omega
      rw [show decide ((c : Int) ≥ clamp n) = true by simp; omega]
      simp only [if_true]
      show flow T14 (.b2 n c) = some true
      refine (flow_eq _ _).trans ?_
      simp only [T14, Tr.den, flowJ, cl2, he, beq_self_eq_true]

theorem true14 (x : Args U [31, 3]) : M14.fn x = some true := by
  show m14 x.1 x.2.1 = some true
  refine (flow_eq _ _).trans ?_
  simp only [T14, Tr.den, flowJ, m26, Option.bind_some, Bool.not_true, cond_false, v29, v35, attend, Bool.and_false]
  exact loop14 x.2.1 500 0 rfl (clamp_bd _).1
end Go.Proofs.Ytcjccaonfgcakaa
