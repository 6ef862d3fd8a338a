/-
  The contracts of the keys and of the examples that the statements ask for first.
-/
import Derived.Test.YtcjccaonfgcakaaWk
namespace Go.Proofs.Ytcjccaonfgcakaa
open Go.RowKit

theorem power_mod (b e : Int) (w : World) (hb : 0 ≤ b) (_hB : b ≤ 4294967295) (he : 0 ≤ e) (hE : e ≤ 4294967295) :
    Calls Try.prog 16 #[.int .u32 (b % 2147483647), .int .u32 e] w fun x w' => x = .returned (.int .u32 (pw b e)) ∧ w = w' :=
  (power_any (b % 2147483647) e w (by omega) (by omega) he hE).mono fun _ _ ⟨h1, h2⟩ => ⟨by rw [h1, pw_mod b e hb], h2⟩
theorem secret_any (n : Int) (w : World) (h : 0 ≤ n) (hB : n ≤ 4294967295) :
    Calls Try.prog 18 #[.int .u32 n] w fun x w' => x = .returned (.int .u32 (1 + n % 2147483645)) ∧ w = w' := by
  go_enter Try.func18, Try.ntmps18
  go_wp2
  go_ret
  exact ⟨rfl, rfl⟩
theorem refsecret_any (n : Int) (w : World) (h : 0 ≤ n) (hB : n ≤ 4294967295) :
    Calls Try.prog 19 #[.int .u32 n] w fun x w' => x = .returned (.int .u32 (1 + n % 2147483645)) ∧ w = w' := by
  go_enter Try.func19, Try.ntmps19
  go_wp2
  go_ret
  exact ⟨rfl, rfl⟩
theorem public_any (n : Int) (w : World) (h : 0 ≤ n) (hB : n ≤ 4294967295) :
    Calls Try.prog 20 #[.int .u32 n] w fun x w' => x = .returned (.int .u32 (pw 7 n)) ∧ w = w' := by
  go_enter Try.func20, Try.ntmps20
  go_wp2_with (go_at_call 16; refine (power_any _ _ _ (by omega) (by omega) (by omega) (by omega)).mono ?_; rintro e w' ⟨rfl, rfl⟩)
  go_ret
  exact ⟨rfl, rfl⟩
theorem refpublic_any (n : Int) (w : World) (h : 0 ≤ n) (hB : n ≤ 4294967295) :
    Calls Try.prog 21 #[.int .u32 n] w fun x w' => x = .returned (.int .u32 (pw 7 n)) ∧ w = w' := by
  go_enter Try.func21, Try.ntmps21
  go_wp2_with (go_at_call 17; refine (refpower_any _ _ _ (by omega) (by omega) (by omega) (by omega)).mono ?_; rintro e w' ⟨rfl, rfl⟩)
  go_ret
  exact ⟨rfl, rfl⟩
theorem shared_any (n m : Int) (w : World) (h : 0 ≤ n) (hB : n ≤ 4294967295) (h' : 0 ≤ m) (hB' : m ≤ 4294967295) :
    Calls Try.prog 24 #[.int .u32 n, .int .u32 m] w fun x w' => x = .returned (.int .u32 (pw m n)) ∧ w = w' := by
  go_enter Try.func24, Try.ntmps24
  go_wp2_with (go_at_call 16; refine (power_any _ _ _ (by omega) (by omega) (by omega) (by omega)).mono ?_; rintro e w' ⟨rfl, rfl⟩)
  go_ret
  exact ⟨rfl, rfl⟩
theorem refshared_any (n m : Int) (w : World) (h : 0 ≤ n) (hB : n ≤ 4294967295) (h' : 0 ≤ m) (hB' : m ≤ 4294967295) :
    Calls Try.prog 25 #[.int .u32 n, .int .u32 m] w fun x w' => x = .returned (.int .u32 (pw m n)) ∧ w = w' := by
  go_enter Try.func25, Try.ntmps25
  go_wp2_with (go_at_call 17; refine (refpower_any _ _ _ (by omega) (by omega) (by omega) (by omega)).mono ?_; rintro e w' ⟨rfl, rfl⟩)
  go_ret
  exact ⟨rfl, rfl⟩
def okKey (n : Int) : Bool := decide (2 ≤ n ∧ n ≤ 2147483645)
theorem ret_bool {a b : Bool} (h : a = b) : Ending.returned (.bool a) = .returned (.bool b) := by rw [h]
theorem valid_any (n : Int) (w : World) (h : 0 ≤ n) (hB : n ≤ 4294967295) :
    Calls Try.prog 22 #[.int .u32 n] w fun x w' => x = .returned (.bool (okKey n)) ∧ w = w' := by
  by_cases h1 : 2 ≤ n
  · by_cases h2 : n ≤ 2147483645
    · go_enter Try.func22, Try.ntmps22
      go_wp2
      go_ret
      exact ⟨ret_bool (by simp [okKey, h1, h2]), rfl⟩
    · go_enter Try.func22, Try.ntmps22
      go_wp2
      go_ret
      exact ⟨ret_bool (by simp [okKey]; omega), rfl⟩
  · go_enter Try.func22, Try.ntmps22
    go_wp2
    go_ret
    exact ⟨ret_bool (by simp [okKey]; omega), rfl⟩
theorem refvalid_any (n : Int) (w : World) (h : 0 ≤ n) (hB : n ≤ 4294967295) :
    Calls Try.prog 23 #[.int .u32 n] w fun x w' => x = .returned (.bool (okKey n)) ∧ w = w' := by
  by_cases h1 : 2 ≤ n
  · by_cases h2 : n ≤ 2147483645
    · go_enter Try.func23, Try.ntmps23
      go_wp2
      go_ret
      exact ⟨ret_bool (by simp [okKey, h1, h2]), rfl⟩
    · go_enter Try.func23, Try.ntmps23
      go_wp2
      go_ret
      exact ⟨ret_bool (by simp [okKey]; omega), rfl⟩
  · go_enter Try.func23, Try.ntmps23
    go_wp2
    go_ret
    exact ⟨ret_bool (by simp [okKey]; omega), rfl⟩

theorem lives_any (w : World) : Calls Try.prog 15 #[] w fun x w' => x = .returned (.bool true) ∧ w = w' := by
  have k1 : (pw 7 12 == 956385319) = true := by decide +kernel
  have k2 : (pw 0 0 == 1) = true := by decide +kernel
  have k3 : ((1 : Int) + 2147483645 % 2147483645 == 1) = true := by decide +kernel
  have k4 : okKey 2 = true := by decide +kernel
  have k5 : okKey 1 = false := by decide +kernel
  have k6 : (pw (pw 7 2) 3 == 117649) = true := by decide +kernel
  have k7 := pw_bd 7 2
  go_enter Try.func15, Try.ntmps15
  go_wp2_with (first | (go_at_call 16; refine (power_any _ _ _ (by omega) (by omega) (by omega) (by omega)).mono ?_; rintro e w' ⟨rfl, rfl⟩) | (go_at_call 18; refine (secret_any _ _ (by omega) (by omega)).mono ?_; rintro e w' ⟨rfl, rfl⟩) | (go_at_call 22; refine (valid_any _ _ (by omega) (by omega)).mono ?_; rintro e w' ⟨rfl, rfl⟩) | (go_at_call 20; refine (public_any _ _ (by omega) (by omega)).mono ?_; rintro e w' ⟨rfl, rfl⟩) | (go_at_call 24; refine (shared_any _ _ _ (by omega) (by omega) (by omega) (by omega)).mono ?_; rintro e w' ⟨rfl, rfl⟩))
  go_ret
  exact ⟨rfl, rfl⟩
end Go.Proofs.Ytcjccaonfgcakaa
