/-
  A node that is alone: what it does at each time.
-/
import Derived.Test.YtpikcdlhgiooaaaGreatKGb0
import Derived.Test.YtpikcdlhgiooaaaGreatKGb1
import Derived.Test.YtpikcdlhgiooaaaGreatKGb2
import Derived.Test.YtpikcdlhgiooaaaGreatKGb3
import Derived.Test.YtpikcdlhgiooaaaGreatKGb4
import Derived.Test.YtpikcdlhgiooaaaGreatKGb5
namespace Go.Proofs.YtpikcdlhgiooaaaGreat
open Go Go.Proofs.YtpikcdlhgiooaaaGreat.Le
set_option linter.unusedVariables false
set_option maxRecDepth 100000
noncomputable section
theorem nt_all (b : Bool) (i : Nat) (h1 : 1 ≤ i) (h2 : i ≤ 256) : ntF b i = some (ntR b i) ∨ nbF b i = some (ntR b i) := by
  by_cases e : i = 50
  · subst e; exact .inr (nb_50 b)
  by_cases e : i = 150
  · subst e; exact .inr (nb_150 b)
  by_cases e : i = 250
  · subst e; exact .inr (nb_250 b)
  by_cases h : i ≤ 8
  · exact .inl (List.map_inj_left.1 (nt_0 b) i (by simp only [List.mem_cons, List.not_mem_nil, or_false]; omega))
  by_cases h : i ≤ 16
  · exact .inl (List.map_inj_left.1 (nt_1 b) i (by simp only [List.mem_cons, List.not_mem_nil, or_false]; omega))
  by_cases h : i ≤ 24
  · exact .inl (List.map_inj_left.1 (nt_2 b) i (by simp only [List.mem_cons, List.not_mem_nil, or_false]; omega))
  by_cases h : i ≤ 32
  · exact .inl (List.map_inj_left.1 (nt_3 b) i (by simp only [List.mem_cons, List.not_mem_nil, or_false]; omega))
  by_cases h : i ≤ 40
  · exact .inl (List.map_inj_left.1 (nt_4 b) i (by simp only [List.mem_cons, List.not_mem_nil, or_false]; omega))
  by_cases h : i ≤ 48
  · exact .inl (List.map_inj_left.1 (nt_5 b) i (by simp only [List.mem_cons, List.not_mem_nil, or_false]; omega))
  by_cases h : i ≤ 57
  · exact .inl (List.map_inj_left.1 (nt_6 b) i (by simp only [List.mem_cons, List.not_mem_nil, or_false]; omega))
  by_cases h : i ≤ 65
  · exact .inl (List.map_inj_left.1 (nt_7 b) i (by simp only [List.mem_cons, List.not_mem_nil, or_false]; omega))
  by_cases h : i ≤ 73
  · exact .inl (List.map_inj_left.1 (nt_8 b) i (by simp only [List.mem_cons, List.not_mem_nil, or_false]; omega))
  by_cases h : i ≤ 81
  · exact .inl (List.map_inj_left.1 (nt_9 b) i (by simp only [List.mem_cons, List.not_mem_nil, or_false]; omega))
  by_cases h : i ≤ 89
  · exact .inl (List.map_inj_left.1 (nt_10 b) i (by simp only [List.mem_cons, List.not_mem_nil, or_false]; omega))
  by_cases h : i ≤ 97
  · exact .inl (List.map_inj_left.1 (nt_11 b) i (by simp only [List.mem_cons, List.not_mem_nil, or_false]; omega))
  by_cases h : i ≤ 105
  · exact .inl (List.map_inj_left.1 (nt_12 b) i (by simp only [List.mem_cons, List.not_mem_nil, or_false]; omega))
  by_cases h : i ≤ 113
  · exact .inl (List.map_inj_left.1 (nt_13 b) i (by simp only [List.mem_cons, List.not_mem_nil, or_false]; omega))
  by_cases h : i ≤ 121
  · exact .inl (List.map_inj_left.1 (nt_14 b) i (by simp only [List.mem_cons, List.not_mem_nil, or_false]; omega))
  by_cases h : i ≤ 129
  · exact .inl (List.map_inj_left.1 (nt_15 b) i (by simp only [List.mem_cons, List.not_mem_nil, or_false]; omega))
  by_cases h : i ≤ 137
  · exact .inl (List.map_inj_left.1 (nt_16 b) i (by simp only [List.mem_cons, List.not_mem_nil, or_false]; omega))
  by_cases h : i ≤ 145
  · exact .inl (List.map_inj_left.1 (nt_17 b) i (by simp only [List.mem_cons, List.not_mem_nil, or_false]; omega))
  by_cases h : i ≤ 154
  · exact .inl (List.map_inj_left.1 (nt_18 b) i (by simp only [List.mem_cons, List.not_mem_nil, or_false]; omega))
  by_cases h : i ≤ 162
  · exact .inl (List.map_inj_left.1 (nt_19 b) i (by simp only [List.mem_cons, List.not_mem_nil, or_false]; omega))
  by_cases h : i ≤ 170
  · exact .inl (List.map_inj_left.1 (nt_20 b) i (by simp only [List.mem_cons, List.not_mem_nil, or_false]; omega))
  by_cases h : i ≤ 178
  · exact .inl (List.map_inj_left.1 (nt_21 b) i (by simp only [List.mem_cons, List.not_mem_nil, or_false]; omega))
  by_cases h : i ≤ 186
  · exact .inl (List.map_inj_left.1 (nt_22 b) i (by simp only [List.mem_cons, List.not_mem_nil, or_false]; omega))
  by_cases h : i ≤ 194
  · exact .inl (List.map_inj_left.1 (nt_23 b) i (by simp only [List.mem_cons, List.not_mem_nil, or_false]; omega))
  by_cases h : i ≤ 202
  · exact .inl (List.map_inj_left.1 (nt_24 b) i (by simp only [List.mem_cons, List.not_mem_nil, or_false]; omega))
  by_cases h : i ≤ 210
  · exact .inl (List.map_inj_left.1 (nt_25 b) i (by simp only [List.mem_cons, List.not_mem_nil, or_false]; omega))
  by_cases h : i ≤ 218
  · exact .inl (List.map_inj_left.1 (nt_26 b) i (by simp only [List.mem_cons, List.not_mem_nil, or_false]; omega))
  by_cases h : i ≤ 226
  · exact .inl (List.map_inj_left.1 (nt_27 b) i (by simp only [List.mem_cons, List.not_mem_nil, or_false]; omega))
  by_cases h : i ≤ 234
  · exact .inl (List.map_inj_left.1 (nt_28 b) i (by simp only [List.mem_cons, List.not_mem_nil, or_false]; omega))
  by_cases h : i ≤ 242
  · exact .inl (List.map_inj_left.1 (nt_29 b) i (by simp only [List.mem_cons, List.not_mem_nil, or_false]; omega))
  by_cases h : i ≤ 251
  · exact .inl (List.map_inj_left.1 (nt_30 b) i (by simp only [List.mem_cons, List.not_mem_nil, or_false]; omega))
  by_cases h : i ≤ 256
  · exact .inl (List.map_inj_left.1 (nt_31 b) i (by simp only [List.mem_cons, List.not_mem_nil, or_false]; omega))
  omega
def tickK : List V → Option V
  | [.agg cs, .lit (.int .i64 (.ofNat i))] => if 1 ≤ i ∧ i ≤ 256 then (relOf cs).map fun _ => .tup [.agg cs, U.enc 57 (sentL i), .sl false 11 []] else none
  | _ => none
theorem gv8 : GivenOK Tryz.prog gl 8 tickK := by
  have h := given_retype [[], [3], [11]] (given_runX (f := 8) mix_ok ckK1 exokK1 hlok10 nilok10 (by rfl) Tryz.func8 (by kernel_rfl) 300)
  have h0 := given_retype [[], [3], [11]] (given_runX (f := 8) mix_ok ckK0 exokK0 hlok10 nilok10 (by rfl) Tryz.func8 (by kernel_rfl) 300)
  refine ⟨h.entered, fun E ys r hg hr => ?_⟩
  unfold tickK at hr
  split at hr
  · rename_i cs i
    split at hr
    · rename_i hi
      obtain ⟨b, hb, rfl⟩ := Option.map_eq_some_iff.1 hr
      rw [relOf_eq hb]
      rcases nt_all b i hi.1 hi.2 with hn | hn
      · exact h.pure E _ _ hg hn
      · exact h0.pure E _ _ hg hn
    · cases hr
  · cases hr
def exK2 : FuncId → Option (List V → Option V)
  | 8 => some tickK
  | 37 => some ownK
  | g => ex_law54_lives g
theorem exokK2 : ∀ g F, exK2 g = some F → GivenOK Tryz.prog gl g F := fun g F h => by
  unfold exK2 at h
  split at h
  · cases h; exact gv8
  · cases h; exact gv37
  · exact exok_law54_lives _ _ h
abbrev E2 : Env := EX Tryz.prog gl fs10 pu10 [(58, 4)] [] exK2 hl10
theorem ckK2 : exCheck Tryz.prog gl fs10 pu10 [(58, 4)] [] exK2 hl10 = true := by kernel_rfl
def mV (b : Bool) (i : Nat) : V := .agg [.sl false 46 [nV b], .sl false 2 [], .sl false 2 [], iV (cntL i), iV i, .sl false 4 [], .sl false 13 []]
def mtF (b : Bool) (i : Nat) : Option V := (runF E2 300 7 [mV b i]).map (retypeR [[46, 2, 2, 0, 0, 4, 13]])
theorem mV_eq (b : Bool) (i : Nat) : U.enc 31 (stM b i) = mV b i := by
  cases b <;> rfl
end
end Go.Proofs.YtpikcdlhgiooaaaGreat
