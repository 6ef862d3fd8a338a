/-
  Both sides compute the same shared secret with secret keys made of any numbers. No conditions: every input.
-/
import Derived.Test.YtcjccaonfgcakaaRows
import Derived.WalkKit
import Derived.ProofKit
import Derived.OpenShut
import Derived.Test.YtcjccaonfgcakaaWl
namespace Go.Proofs.Ytcjccaonfgcakaa.groupAgreesSecrets
open Go.ChangeShapes Go.WideShapes Go.ChangeAt Go.RowKit
set_option linter.unusedVariables false      -- a walk need not use every 'w<i>' (that an integer argument fits its kind)

theorem own : ownKnob Try.prog.godebug = none := by kernel_rfl

/-! ### THE WALK. 'Grown w w'': the world has at most new blocks (Derived/RowKit3.lean). Part the cases AHEAD of 'go_enter' where a test parts the walk; take each callee by a contract of your own. -/
theorem walk (a0 : Int) (a1 : Int) (w0 : (Lit.int .u32 a0).wf = true) (w1 : (Lit.int .u32 a1).wf = true) (w : World) :
    Calls Try.prog 9 #[.int .u32 a0, .int .u32 a1] w fun e w' => e = .returned (.bool true) ∧ Grown w w' := by
  have b0 : 0 ≤ a0 ∧ a0 ≤ 4294967295 := by simpa [Lit.wf, IntKind.min, IntKind.max, IntKind.signed, IntKind.bits] using w0
  obtain ⟨c0, d0⟩ := b0
  have b1 : 0 ≤ a1 ∧ a1 ≤ 4294967295 := by simpa [Lit.wf, IntKind.min, IntKind.max, IntKind.signed, IntKind.bits] using w1
  obtain ⟨c1, d1⟩ := b1
  have s0 : 0 ≤ a0 % 2147483645 ∧ a0 % 2147483645 < 2147483645 := by omega
  have s1 : 0 ≤ a1 % 2147483645 ∧ a1 % 2147483645 < 2147483645 := by omega
  obtain ⟨e0, f0⟩ := s0
  obtain ⟨e1, f1⟩ := s1
  obtain ⟨p0, q0⟩ := pw_bd 7 (1 + a0 % 2147483645)
  obtain ⟨p1, q1⟩ := pw_bd 7 (1 + a1 % 2147483645)
  obtain ⟨p2, q2⟩ := pw_bd (pw 7 (1 + a1 % 2147483645)) (1 + a0 % 2147483645)
  obtain ⟨p3, q3⟩ := pw_bd (pw 7 (1 + a1 % 2147483645)) (1 + a0 % 2147483645 - 1)
  have m0 : (pw (pw 7 (1 + a1 % 2147483645)) (1 + a0 % 2147483645) == pw (pw 7 (1 + a0 % 2147483645)) (1 + a1 % 2147483645)) = true := by rw [pw_pw, beq_iff_eq]
  have m1 : (pw (pw 7 (1 + a1 % 2147483645)) (1 + a0 % 2147483645) == pw (pw 7 (1 + a1 % 2147483645)) (1 + a0 % 2147483645 - 1) * pw 7 (1 + a1 % 2147483645) % 2147483647) = true := by
    have e : 1 + a0 % 2147483645 - 1 = a0 % 2147483645 := by omega
    rw [e, pw_add _ 1 (a0 % 2147483645) (by omega) e0, pw_one _ p1, beq_iff_eq, Int.mul_comm (pw (pw 7 (1 + a1 % 2147483645)) (a0 % 2147483645)), Int.mul_emod, Int.emod_emod, ← Int.mul_emod]
  obtain ⟨m2, m3⟩ : 0 ≤ pw (pw 7 (1 + a1 % 2147483645)) (1 + a0 % 2147483645 - 1) * pw 7 (1 + a1 % 2147483645) ∧ pw (pw 7 (1 + a1 % 2147483645)) (1 + a0 % 2147483645 - 1) * pw 7 (1 + a1 % 2147483645) ≤ 4611686009837453316 := by
    have h := mul_small (pwN (pw 7 (1 + a1 % 2147483645)).toNat (1 + a0 % 2147483645 - 1).toNat) (pwN 7 (1 + a1 % 2147483645).toNat) (pwN_lt _ _) (pwN_lt _ _)
    exact h
  go_enter Try.func9, Try.ntmps9
  go_wp2_with (first | (go_at_call 15; refine (lives_any _).mono ?_; rintro e w' ⟨rfl, rfl⟩) | (go_at_call 16; refine (power_any _ _ _ (by omega) (by omega) (by omega) (by omega)).mono ?_; rintro e w' ⟨rfl, rfl⟩) | (go_at_call 17; refine (refpower_any _ _ _ (by omega) (by omega) (by omega) (by omega)).mono ?_; rintro e w' ⟨rfl, rfl⟩) | (go_at_call 18; refine (secret_any _ _ (by omega) (by omega)).mono ?_; rintro e w' ⟨rfl, rfl⟩) | (go_at_call 19; refine (refsecret_any _ _ (by omega) (by omega)).mono ?_; rintro e w' ⟨rfl, rfl⟩) | (go_at_call 20; refine (public_any _ _ (by omega) (by omega)).mono ?_; rintro e w' ⟨rfl, rfl⟩) | (go_at_call 21; refine (refpublic_any _ _ (by omega) (by omega)).mono ?_; rintro e w' ⟨rfl, rfl⟩) | (go_at_call 22; refine (valid_any _ _ (by omega) (by omega)).mono ?_; rintro e w' ⟨rfl, rfl⟩) | (go_at_call 23; refine (refvalid_any _ _ (by omega) (by omega)).mono ?_; rintro e w' ⟨rfl, rfl⟩) | (go_at_call 24; refine (shared_any _ _ _ (by omega) (by omega) (by omega) (by omega)).mono ?_; rintro e w' ⟨rfl, rfl⟩) | (go_at_call 25; refine (refshared_any _ _ _ (by omega) (by omega) (by omega) (by omega)).mono ?_; rintro e w' ⟨rfl, rfl⟩))
  go_ret
  exact ⟨rfl, Grown.refl _⟩

/-! ### THE ROW's STEP: WRITTEN OUT: LEAVE IT -/
set_option maxRecDepth 100000 in
theorem lifted (os : Os) (started : os.Started) (H : Type) (enc : TypeId × Value → H) :
    ReturnsInHanded {} Try.checked os 9 .any (Rows.groupAgreesSecretsSpec.pre6 enc Try.prog Try.f9 Rows.groupAgreesSecretsRow.domain false) (Rows.groupAgreesSecretsSpec.post enc Try.prog Try.f9 false true false false) := by
  refine returnsInHanded_of_change (C := Try.checked) own started (by kernel_rfl) Try.func9
    (ChangeSpec.witness6 (enc := enc) (C := Try.checked) false ⟨#[], #[.int .u32 0, .int .u32 0], []⟩ 8 (by kernel_rfl) (by kernel_rfl) (by kernel_rfl) (by kernel_rfl)) ?_
  intro W base args ds gs before hval0 hW hcnd _
  have hval : ∀ (j : Nat) t v, Try.f9.params[j]? = some t → args[j]? = some v → Value.okWide Try.prog W .any base t v := hval0
  have hW' := hW
  obtain ⟨p, q, hA0, hV, rfl, hfz, hnd⟩ := hW
  have hA : DataW.TrodAll enc Try.prog W 0 (fun _ => true) true Try.f9.params.toList args.toList ds p := hA0
  rw [Try.params9] at hA hval
  obtain ⟨v0, vs0, d0, ds0, p0, q0, hargs, rfl, rfl, h0, r0⟩ := trodAll_cons hA
  obtain ⟨v1, vs1, d1, ds1, p1, q1, rfl, rfl, rfl, h1, r1⟩ := trodAll_cons r0
  obtain ⟨rfl, rfl, rfl⟩ := trodAll_nil r1
  obtain rfl : args = #[v0, v1] := by cases args; simp_all
  obtain ⟨rfl, rfl⟩ := trodVars_none hV
  obtain ⟨a0, rfl, rfl, rfl, w0⟩ := open_int Try.underlying22 (hval 0 22 v0 rfl rfl) h0
  obtain ⟨a1, rfl, rfl, rfl, w1⟩ := open_int Try.underlying22 (hval 1 22 v1 rfl rfl) h1
  clear hA0 hval0
  simp only [List.append_nil] at hW'
  refine (walk a0 a1 w0 w1 W).mono fun e W' ⟨he, hg⟩ => ?_
  subst he
  exact ⟨_, rfl, post_of_same (pa := []) (pv := []) hW' (fun _ _ _ => (trodAll_cons_mk (shut_bool Try.underlying4 _) trodAll_mk0)) (fun sp _ => (trodAll_cons_mk (shut_int Try.underlying22 w0) (trodAll_cons_mk (shut_int Try.underlying22 w1) trodAll_mk0))) (fun _ _ => rfl) rfl
    (hg.frame _) hg.2.1 (ok_one (by kernel_rfl) rfl (okWide_bool_mk Try.underlying4 _))⟩

theorem over : Rows.groupAgreesSecretsRow.holds Try.pinned (OpenSpec.ofChange Rows.groupAgreesSecretsSpec) :=
  OpenClaim.holds_of_wide 9 Try.f9 rfl rfl rfl rfl rfl rfl rfl ⟨rfl, rfl, rfl, rfl, rfl⟩ rfl rfl rfl rfl rfl (by kernel_rfl) Try.func9 (by kernel_rfl)
    (of_decide_eq_true (by kernel_rfl)) (by unfold Func.isWrapper; first | (rw [if_pos (by decide +kernel)]; kernel_rfl) | (rw [if_neg (by decide +kernel)]; exact ⟨rfl, rfl⟩))
    (fun os started H enc _ => lifted os started H enc)

/-- ████ THE STATEMENT ████ -/
theorem proved : Rows.GroupAgreesSecretsSaid :=
  over
#print axioms proved
end Go.Proofs.Ytcjccaonfgcakaa.groupAgreesSecrets
