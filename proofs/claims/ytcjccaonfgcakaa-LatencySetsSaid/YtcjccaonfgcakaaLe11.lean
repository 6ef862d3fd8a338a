/-
  An evaluator for the model's code over pure values: slice expressions, addresses, parts.
-/
import Derived.Test.YtcjccaonfgcakaaLe10
namespace Go.Proofs.Ytcjccaonfgcakaa.Le
set_option linter.unusedVariables false
open Go.RowKit (Below)

theorem addr_add_add (a : Addr) (x y : Nat) : (a.add x).add y = a.add (x + y) := by
  unfold Addr.add
  by_cases hx : x = 0
  · subst hx; simp
  · by_cases hy : y = 0
    · subst hy; simp [hx]
    · simp [hx, hy, Nat.add_assoc]

/-! ### lengths -/

theorem lenOf_ok {B w0 σ H w} (h : Inv B w0 σ H w) {x : V} {v : Value} {n : Nat} (hr : Reps σ w [x] [v]) (hl : lenOf H x = some n) :
    (∃ s, x = .lit (.string s) ∧ v = .string s ∧ n = s.size) ∨ ∃ a c, v = .slice a n c ∧ n ≤ c := by
  unfold lenOf at hl
  split at hl
  · simp only [Option.some.injEq] at hl
    subst hl
    right
    cases hr with
    | slnil _ => exact ⟨_, _, rfl, Nat.le_refl _⟩
    | slemp a _ => exact ⟨_, _, rfl, Nat.le_refl _⟩
    | sl b o c e k0 k1 k2 k3 k4 k5 k6 k7 => exact ⟨_, _, rfl, k4⟩
  · simp only [Option.some.injEq] at hl
    subst hl
    right
    cases hr with
    | sltnil _ => exact ⟨_, _, rfl, Nat.le_refl _⟩
    | sltemp a _ => exact ⟨_, _, rfl, Nat.le_refl _⟩
    | slt b o e k0 k1 k2 k3 k4 k5 k6 => exact ⟨_, _, rfl, Nat.le_refl _⟩
  · rename_i id off len tot
    split at hl
    · rename_i b hb
      simp only [Option.some.injEq] at hl
      subst hl
      right
      obtain ⟨L, us, m, hxl, hol, hs, hview⟩ := lsl_view h hr hb
      rcases hview with ⟨hv, hvv, ho, hl, ht⟩ | ⟨g, cap, k, hv, hvv, hle, hmx, hk1, hk2⟩
      · subst hl; exact ⟨_, _, hvv, Nat.le_refl _⟩
      · exact ⟨_, _, hvv, by omega⟩
    · cases hl
  · rename_i s
    simp only [Option.some.injEq] at hl
    subst hl
    left
    cases hr with
    | lit _ _ => exact ⟨s, rfl, rfl, rfl⟩
  · cases hl

theorem len_ok {B w0 σ H w} {P : Program} (h : Inv B w0 σ H w) {x : V} {v : Value} {n : Nat} {t ty : TypeId} {d : TypeDesc} (hr : Reps σ w [x] [v]) (hl : lenOf H x = some n)
    (ht : P.underlying t = some d) (hd : (∃ e, d = .slice e) ∨ d = .string) (hc : (∃ e, d = .slice e) ↔ ∀ s, x ≠ .lit (.string s)) :
    (Builtin.len_ #[t] ty #[v]).run P w = .ok (.int .i64 n) w := by
  rcases lenOf_ok h hr hl with ⟨s, hx, hv, hn⟩ | ⟨a, c, hv, hn⟩
  · have hds : d = .string := by
      rcases hd with hd | hd
      · exact absurd hx (hc.1 hd s)
      · exact hd
    subst hv hn
    simp [Builtin.len_, run_underlying ht, hds, goInt]
  · have hds : ∃ e, d = .slice e := hc.2 (fun s hs => by subst hs; cases hr; cases hv)
    obtain ⟨e, hds⟩ := hds
    subst hv
    simp [Builtin.len_, run_underlying ht, hds, goInt]

/-! ### slice expressions -/

theorem boundD_ok {σ w} {P : Program} {x : V} {v : Value} {hi n : Nat} (code : BoundsCode) (hr : Reps σ w [x] [v]) (hb : boundD x hi = some n) :
    (Instr.sliceBound v hi code).run P w = .ok n w ∧ n ≤ hi := by
  unfold boundD at hb
  split at hb
  · rename_i k m
    split at hb
    · rename_i hc
      simp only [Option.some.injEq] at hb
      subst hb
      cases hr with
      | lit _ _ =>
        refine ⟨?_, by omega⟩
        simp [Instr.sliceBound, asIntOf, hc]
    · cases hb
  · cases hb

inductive OptRep (σ : Sg) (w : World) : Option V → Option Value → Prop where
  | none : OptRep σ w none none
  | some {x v} : Reps σ w [x] [v] → OptRep σ w (some x) (some v)

theorem boundD_up {σ w} {P : Program} {x : V} {v : Value} {n cap h : Nat} (code : BoundsCode) (hnc : n ≤ cap) (hr : Reps σ w [x] [v]) (eh : boundD x n = some h) : (Instr.sliceBound v cap code).run P w = .ok h w ∧ h ≤ n := by
  have hk := (boundD_ok (P := P) code hr eh).2
  refine ⟨?_, hk⟩
  have : boundD x cap = some h := by
    unfold boundD at eh ⊢
    split at eh
    · split at eh
      · rename_i hc
        simp only [Option.some.injEq] at eh
        rw [if_pos ⟨hc.1, by omega⟩, eh]
      · cases eh
    · cases eh
  exact (boundD_ok (P := P) _ hr this).1

/-- The bounds of a slice expression without a third one: both are at most the length. -/
theorem bounds_ok {σ w} {P : Program} {n cap : Nat} (hnc : n ≤ cap) (isSlice : Bool) {lo hi : Option V} {vlo vhi : Option Value} {l h : Nat}
    (hlo : OptRep σ w lo vlo) (hhi : OptRep σ w hi vhi)
    (eh : optBound hi n n = some h) (el : optBound lo h 0 = some l) :
    (Instr.sliceBounds isSlice n cap vlo vhi none).run P w = .ok (l, h, cap) w ∧ l ≤ h ∧ h ≤ n := by
  cases hhi with
  | none =>
    simp only [optBound, Option.some.injEq] at eh
    subst eh
    cases hlo with
    | none =>
      simp only [optBound, Option.some.injEq] at el
      subst el
      exact ⟨rfl, Nat.zero_le _, Nat.le_refl _⟩
    | some hr =>
      obtain ⟨r1, r2⟩ := boundD_ok (P := P) .sliceB hr el
      refine ⟨?_, r2, Nat.le_refl _⟩
      simp [Instr.sliceBounds, r1]
  | some hr' =>
    obtain ⟨q1, q2⟩ := boundD_up (P := P) (if isSlice then .sliceAcap else .sliceAlen) hnc hr' eh
    cases hlo with
    | none =>
      simp only [optBound, Option.some.injEq] at el
      subst el
      refine ⟨?_, Nat.zero_le _, q2⟩
      simp [Instr.sliceBounds, q1]
    | some hr =>
      obtain ⟨r1, r2⟩ := boundD_ok (P := P) .sliceB hr el
      refine ⟨?_, r2, q2⟩
      simp [Instr.sliceBounds, q1, r1]

/-- .. and with a third one that is the second. -/
theorem bounds3_ok {σ w} {P : Program} {n cap : Nat} (hnc : n ≤ cap) {lo : Option V} {xh xm : V} {vlo : Option Value} {vh vm : Value} {l h : Nat}
    (hlo : OptRep σ w lo vlo) (hhi : Reps σ w [xh] [vh]) (hmx : Reps σ w [xm] [vm])
    (eh : boundD xh n = some h) (em : boundD xm n = some h) (el : optBound lo h 0 = some l) :
    (Instr.sliceBounds true n cap vlo (some vh) (some vm)).run P w = .ok (l, h, h) w ∧ l ≤ h ∧ h ≤ n := by
  obtain ⟨m1, m2⟩ := boundD_up (P := P) .slice3Acap hnc hmx em
  have q1 : (Instr.sliceBound vh h .slice3B).run P w = .ok h w := by
    have : boundD xh h = some h := by
      unfold boundD at eh ⊢
      split at eh
      · split at eh
        · rename_i hc
          simp only [Option.some.injEq] at eh
          rw [if_pos ⟨hc.1, by omega⟩, eh]
        · cases eh
      · cases eh
    exact (boundD_ok (P := P) _ hhi this).1
  cases hlo with
  | none =>
    simp only [optBound, Option.some.injEq] at el
    subst el
    refine ⟨?_, Nat.zero_le _, m2⟩
    simp [Instr.sliceBounds, m1, q1]
  | some hr =>
    obtain ⟨r1, r2⟩ := boundD_ok (P := P) .slice3C hr el
    refine ⟨?_, r2, m2⟩
    simp [Instr.sliceBounds, m1, q1, r1]

theorem run_slice_slice {P : Program} {w : World} {t e : TypeId} {inf : TypeInfo} {a : Option Addr} {n c l h m : Nat} {lo hi mx : Option Value} (ht : P.underlying t = some (.slice e)) (hi' : P.info? e = some inf)
    (hb : (Instr.sliceBounds true n c lo hi mx).run P w = .ok (l, h, m) w) :
    (Instr.sliceAt t (.slice a n c) lo hi mx).run P w = .ok (.slice (if m = l then a else a.map (·.add (l * inf.size))) (h - l) (m - l)) w := by
  simp [Instr.sliceAt, Instr.slice, run_underlying ht, hb, sizeOf, typeInfo, hi']

theorem Lies.sub {σ w b o us e} (h : Lies σ w b o us) (hs : ∀ u ∈ us, u.cells.size = e) (l n : Nat) : Lies σ w b (o + l * e) ((us.drop l).take n) := by
  intro j u hu
  rw [flat_sub hs] at hu
  have hj : j < n * e := by
    have := (List.getElem?_eq_some_iff.1 hu).1
    simp at this
    omega
  rw [List.getElem?_take, if_pos hj, List.getElem?_drop] at hu
  have := h (l * e + j) u hu
  rw [← Nat.add_assoc] at this
  exact this

/-- A part of an immutable slice, as the model cuts it. -/
theorem sl_cut {σ w} {es : List V} {us : List Value} {b o c e l h : Nat} (k0 : Reps σ w es us) (k1 : ∀ x ∈ es, fzV x = true) (k2 : ∀ u ∈ us, u.cells.size = e) (k3 : ∀ u ∈ flat us, u.oneCell' = true)
    (k4 : es.length ≤ c) (k5 : c ≤ maxLen) (k6 : Lies σ w b o us) (hl : l ≤ h) (hh : h ≤ es.length) (m : Nat) (hm : h ≤ m) (hm2 : m ≤ c) :
    Reps σ w [.sl false e ((es.drop l).take (h - l))] [.slice (if m = l then some ⟨b, o, none⟩ else (some (⟨b, o, none⟩ : Addr)).map (·.add (l * e))) (h - l) (m - l)] ∧
    (m = h → Reps σ w [.slt false e ((es.drop l).take (h - l))] [.slice (if m = l then some ⟨b, o, none⟩ else (some (⟨b, o, none⟩ : Addr)).map (·.add (l * e))) (h - l) (m - l)]) := by
  have hlen : ((es.drop l).take (h - l)).length = h - l := by simp; omega
  have haddr : ∃ o', (if m = l then some (⟨b, o, none⟩ : Addr) else (some (⟨b, o, none⟩ : Addr)).map (·.add (l * e))) = some ⟨b, o', none⟩ ∧ Lies σ w b o' ((us.drop l).take (h - l)) := by
    by_cases hml : m = l
    · rw [if_pos hml]
      refine ⟨o, rfl, ?_⟩
      have : h - l = 0 := by omega
      rw [this, List.take_zero]
      intro j u hu
      simp [flat] at hu
    · rw [if_neg hml]
      exact ⟨o + l * e, by simp [Addr.add_mid], k6.sub k2 l (h - l)⟩
  obtain ⟨o', ha, hlies⟩ := haddr
  rw [ha]
  have r := reps_sub k0 l (h - l)
  have ok : ∀ x ∈ (es.drop l).take (h - l), fzV x = true := fun x hx => k1 x (List.mem_of_mem_drop (List.mem_of_mem_take hx))
  have sz := sizes_take (sizes_drop k2 l) (h - l)
  have on := one_take (one_drop k3 l) (h - l)
  constructor
  · have := Reps.sl (σ := σ) (w := w) (xs := []) (vs := []) b o' (m - l) e r ok sz on (by rw [hlen]; omega) (by omega) hlies .nil
    rw [hlen] at this
    exact this
  · intro hmh
    have := Reps.slt (σ := σ) (w := w) (xs := []) (vs := []) b o' e r ok sz on (by rw [hlen]; omega) hlies .nil
    rw [hlen] at this
    rw [hmh]
    exact this

theorem fits_elem {E : Env} {P : Program} (hE : EnvOK E) (hP : E.P = P) {H : Heap} {t : TypeId} {x : V} (hx : ∀ s, x ≠ .lit (.string s)) (hf : sliceFits E H t x = true) :
    ∃ e inf, P.underlying t = some (.slice e) ∧ P.info? e = some inf ∧ eszIs H x inf.size = true := by
  unfold sliceFits at hf
  split at hf
  · exact absurd rfl (hx _)
  · split at hf
    · rename_i e sz by' z0 hti
      split at hf
      · rename_i ei hei
        obtain ⟨inf, d, hi, hd, q1, q2, q3, q4⟩ := tiOf_some (hE.ti _ _ hti)
        obtain ⟨infe, de, hie, hde, e1, e2, e3, e4⟩ := tiOf_some (hE.ti _ _ hei)
        rw [hP] at hd hie
        exact ⟨e, infe, by rw [hd, tyOf_slice q1], hie, by rw [← e2]; exact hf⟩
      · cases hf
    · cases hf

/-- A full slice expression over an immutable slice. -/
theorem cut3 {E : Env} {σ w} {P : Program} {x : V} {t te : TypeId} {inf : TypeInfo} {b : Bool} {e : Nat} {xs : List V} {v : Value} {lo : Option V} {xh xm : V} {vlo : Option Value} {vh vm : Value} {l h : Nat}
    (ht : P.underlying t = some (.slice te)) (hi' : P.info? te = some inf) (hes : (b || e == inf.size) = true)
    (hx : x = .sl b e xs ∨ x = .slt b e xs) (hr : Reps σ w [x] [v]) (hlo : OptRep σ w lo vlo) (hhi : Reps σ w [xh] [vh]) (hmx : Reps σ w [xm] [vm])
    (eh : boundD xh xs.length = some h) (em : boundD xm xs.length = some h) (el : optBound lo h 0 = some l) :
    ∃ u, (Instr.sliceAt t v vlo (some vh) (some vm)).run P w = .ok u w ∧ Reps σ w [.slt false e ((xs.drop l).take (h - l))] [u] := by
  have empc : ∀ e a, v = .slice (some a) 0 0 → xs = [] → ∃ u, (Instr.sliceAt t v vlo (some vh) (some vm)).run P w = .ok u w ∧ Reps σ w [.slt false e ((xs.drop l).take (h - l))] [u] := by
    intro e a hv hxs
    subst hv hxs
    obtain ⟨b1, b2, b3⟩ := bounds3_ok (P := P) (Nat.le_refl 0) hlo hhi hmx eh em el
    have hh0 : h = 0 := by simpa using b3
    have hl0 : l = 0 := by omega
    subst hh0
    subst hl0
    refine ⟨_, run_slice_slice ht hi' b1, ?_⟩
    simp
    exact .sltemp a .nil
  have nilc : ∀ e, v = .slice none 0 0 → xs = [] → ∃ u, (Instr.sliceAt t v vlo (some vh) (some vm)).run P w = .ok u w ∧ Reps σ w [.slt false e ((xs.drop l).take (h - l))] [u] := by
    intro e hv hxs
    subst hv hxs
    obtain ⟨b1, b2, b3⟩ := bounds3_ok (P := P) (Nat.le_refl 0) hlo hhi hmx eh em el
    have hh0 : h = 0 := by simpa using b3
    have hl0 : l = 0 := by omega
    subst hh0
    subst hl0
    refine ⟨_, run_slice_slice ht hi' b1, ?_⟩
    simp
    exact .sltnil .nil
  rcases hx with rfl | rfl
  · cases hr with
    | slnil _ => exact nilc e rfl rfl
    | slemp a _ => exact empc e a rfl rfl
    | sl b' o c e' k0 k1 k2 k3 k4 k5 k6 k7 =>
      have hee : e = inf.size := by simpa using hes
      obtain ⟨b1, b2, b3⟩ := bounds3_ok (P := P) k4 hlo hhi hmx eh em el
      refine ⟨_, run_slice_slice ht hi' b1, ?_⟩
      rw [← hee]
      exact (sl_cut k0 k1 k2 k3 k4 k5 k6 b2 b3 h (Nat.le_refl _) (by omega)).2 rfl
  · cases hr with
    | sltnil _ => exact nilc e rfl rfl
    | sltemp a _ => exact empc e a rfl rfl
    | slt b' o e' k0 k1 k2 k3 k4 k5 k6 =>
      have hee : e = inf.size := by simpa using hes
      obtain ⟨b1, b2, b3⟩ := bounds3_ok (P := P) (Nat.le_refl _) hlo hhi hmx eh em el
      refine ⟨_, run_slice_slice ht hi' b1, ?_⟩
      rw [← hee]
      exact (sl_cut k0 k1 k2 k3 (Nat.le_refl _) k4 k5 b2 b3 h (Nat.le_refl _) b3).2 rfl

theorem slice_ok {E B w0 σ H w} {P : Program} (hE : EnvOK E) (hP : E.P = P) (h : Inv B w0 σ H w) {t : TypeId} {x r : V} {v : Value} {lo hi mx : Option V} {vlo vhi vmx : Option Value} {H' : Heap}
    (hr : Reps σ w [x] [v]) (hlo : OptRep σ w lo vlo) (hhi : OptRep σ w hi vhi) (hmx : OptRep σ w mx vmx) (hs : sliceD E H t x lo hi mx = some (r, H')) :
    ∃ u σ', (Instr.sliceAt t v vlo vhi vmx).run P w = .ok u w ∧ Inv B w0 σ' H' w ∧ Ext σ w σ' w ∧ Reps σ' w [r] [u] := by
  unfold sliceD at hs
  split at hs
  · rename_i hfits
    split at hs
    · cases hs
    · rename_i n hn
      split at hs
      · cases hs
      · rename_i hh eh
        split at hs
        · cases hs
        · rename_i l el
          cases hmx with
          | none =>
            simp only at hs
            split at hs
            · -- a string
              rename_i s
              simp only [Option.some.injEq, Prod.mk.injEq] at hs
              obtain ⟨rfl, rfl⟩ := hs
              have hst : P.underlying t = some .string := by rw [← hP]; exact hE.isStr t hfits
              cases hr with
              | lit hlf _ =>
                have hns : n = s.size := by simpa [lenOf] using hn.symm
                subst hns
                obtain ⟨b1, b2, b3⟩ := bounds_ok (P := P) (Nat.le_refl _) false hlo hhi eh el
                refine ⟨.string (s.extract l hh), σ, ?_, h, Ext.refl σ w, .lit ?_ .nil⟩
                · simp [Instr.sliceAt, Instr.slice, run_underlying hst, b1]
                · have : s.size ≤ maxLen := by simpa [leaf] using hlf
                  simp only [leaf, decide_eq_true_eq, ByteArray.size_extract]
                  omega
            · rename_i b e xs
              simp only [Option.some.injEq, Prod.mk.injEq] at hs
              obtain ⟨rfl, rfl⟩ := hs
              obtain ⟨te, inf, ht, hi', hes⟩ := fits_elem hE hP (by simp) hfits
              cases hr with
              | slnil _ =>
                have hns : n = 0 := by simpa [lenOf] using hn.symm
                subst hns
                obtain ⟨b1, b2, b3⟩ := bounds_ok (P := P) (Nat.le_refl 0) true hlo hhi eh el
                have hh0 : hh = 0 := by omega
                have hl0 : l = 0 := by omega
                subst hh0
                subst hl0
                refine ⟨_, σ, run_slice_slice ht hi' b1, h, Ext.refl σ w, ?_⟩
                simp
                exact .slnil .nil
              | slemp a _ =>
                have hns : n = 0 := by simpa [lenOf] using hn.symm
                subst hns
                obtain ⟨b1, b2, b3⟩ := bounds_ok (P := P) (Nat.le_refl 0) true hlo hhi eh el
                have hh0 : hh = 0 := by omega
                have hl0 : l = 0 := by omega
                subst hh0
                subst hl0
                refine ⟨_, σ, run_slice_slice ht hi' b1, h, Ext.refl σ w, ?_⟩
                simp
                exact .slemp a .nil
              | sl b o c e k0 k1 k2 k3 k4 k5 k6 k7 =>
                have hns : n = xs.length := by simpa [lenOf] using hn.symm
                subst hns
                have hee : e = inf.size := by simpa [eszIs] using hes
                obtain ⟨b1, b2, b3⟩ := bounds_ok (P := P) k4 true hlo hhi eh el
                refine ⟨_, σ, run_slice_slice ht hi' b1, h, Ext.refl σ w, ?_⟩
                rw [← hee]
                exact (sl_cut k0 k1 k2 k3 k4 k5 k6 b2 b3 c (by omega) (Nat.le_refl _)).1
            · rename_i b e xs
              simp only [Option.some.injEq, Prod.mk.injEq] at hs
              obtain ⟨rfl, rfl⟩ := hs
              obtain ⟨te, inf, ht, hi', hes⟩ := fits_elem hE hP (by simp) hfits
              cases hr with
              | sltnil _ =>
                have hns : n = 0 := by simpa [lenOf] using hn.symm
                subst hns
                obtain ⟨b1, b2, b3⟩ := bounds_ok (P := P) (Nat.le_refl 0) true hlo hhi eh el
                have hh0 : hh = 0 := by omega
                have hl0 : l = 0 := by omega
                subst hh0
                subst hl0
                refine ⟨_, σ, run_slice_slice ht hi' b1, h, Ext.refl σ w, ?_⟩
                simp
                exact .slnil .nil
              | sltemp a _ =>
                have hns : n = 0 := by simpa [lenOf] using hn.symm
                subst hns
                obtain ⟨b1, b2, b3⟩ := bounds_ok (P := P) (Nat.le_refl 0) true hlo hhi eh el
                have hh0 : hh = 0 := by omega
                have hl0 : l = 0 := by omega
                subst hh0
                subst hl0
                refine ⟨_, σ, run_slice_slice ht hi' b1, h, Ext.refl σ w, ?_⟩
                simp
                exact .slemp a .nil
              | slt b o e k0 k1 k2 k3 k4 k5 k6 =>
                have hns : n = xs.length := by simpa [lenOf] using hn.symm
                subst hns
                have hee : e = inf.size := by simpa [eszIs] using hes
                obtain ⟨b1, b2, b3⟩ := bounds_ok (P := P) (Nat.le_refl _) true hlo hhi eh el
                refine ⟨_, σ, run_slice_slice ht hi' b1, h, Ext.refl σ w, ?_⟩
                rw [← hee]
                exact (sl_cut k0 k1 k2 k3 (Nat.le_refl _) k4 k5 b2 b3 xs.length b3 (Nat.le_refl _)).1
            · rename_i id off len tot
              simp only [Option.some.injEq, Prod.mk.injEq] at hs
              obtain ⟨rfl, rfl⟩ := hs
              obtain ⟨te, inf, ht, hi', hes⟩ := fits_elem hE hP (by simp) hfits
              cases hb : boxAt H id tot with
              | none => simp [lenOf, hb] at hn
              | some b =>
                have hns : n = len := by simpa [lenOf, hb] using hn.symm
                subst hns
                obtain ⟨L, us, m, hxl, hol, hsub, hview⟩ := lsl_view h hr hb
                have hLe : L.esz = inf.size := by
                  have : b.esz = inf.size := by simpa [eszIs, hb] using hes
                  rw [← m.esz]; exact this
                obtain ⟨a, nn, c, k, e1, e2, e3, e4, e5⟩ := hsub
                have hnc : nn ≤ c ∧ nn = tot := by
                  rcases m.shape with ⟨hv, hx, hu⟩ | ⟨g, cap, cur, hv, hg, hhh, hnn, hm, hsz, htk⟩
                  · rw [hv] at e1; cases e1; exact ⟨Nat.le_refl _, by rw [← hxl, hx]; rfl⟩
                  · rw [hv] at e1; cases e1; exact ⟨hnn, hxl⟩
                subst e2
                obtain ⟨b1, b2, b3⟩ := bounds_ok (P := P) (n := n) (cap := c - off) (by omega) true hlo hhi eh el
                refine ⟨_, σ, run_slice_slice ht hi' b1, h, Ext.refl σ w, ?_⟩
                refine .lsl m.box (by rw [m.tot, hxl]; exact Nat.le_refl _) (fun _ => ⟨by omega, a, nn, c, if c - off = l then k else k + l, e1, ?_, by omega, by split <;> omega, fun hlt => by split <;> omega⟩) ⟨_, _, _, rfl⟩ .nil
                rw [hLe]
                congr 1
                · split
                  · rfl
                  · cases a with
                    | none => rfl
                    | some ad => simp [addr_add_add, Nat.add_mul]
                · omega
            · cases hs
          | some hmr =>
            rename_i xm vm
            simp only at hs
            have common : ∀ k, boundD xm n = some k → k = hh → ∀ xh, hi = some xh → ∃ vh, vhi = some vh ∧ Reps σ w [xh] [vh] ∧ boundD xh n = some hh := by
              intro k hk hkh xh hxh
              subst hxh
              cases hhi with
              | some hhr => exact ⟨_, rfl, hhr, eh⟩
            split at hs
            · rename_i xh k xs' b e xs hk hxs
              split at hs
              · rename_i hkh
                simp only [Option.some.injEq, Prod.mk.injEq] at hs
                obtain ⟨rfl, rfl⟩ := hs
                obtain ⟨te, inf, ht, hi', hes⟩ := fits_elem hE hP (by simp) hfits
                obtain ⟨vh, hvh, hhr, ehh⟩ := common k hk hkh xh rfl
                have hns : n = xs.length := by simpa [lenOf] using hn.symm
                have hxx : xs' = xs := by simpa [elemsOf] using hxs.symm
                subst hns hxx hkh hvh
                obtain ⟨u, hu, hru⟩ := cut3 (E := E) (P := P) ht hi' (by simpa [eszIs] using hes) (.inl rfl) hr hlo hhr hmr ehh hk el
                exact ⟨u, σ, hu, h, Ext.refl σ w, hru⟩
              · cases hs
            · rename_i xh k xs' b e xs hk hxs
              split at hs
              · rename_i hkh
                simp only [Option.some.injEq, Prod.mk.injEq] at hs
                obtain ⟨rfl, rfl⟩ := hs
                obtain ⟨te, inf, ht, hi', hes⟩ := fits_elem hE hP (by simp) hfits
                obtain ⟨vh, hvh, hhr, ehh⟩ := common k hk hkh xh rfl
                have hns : n = xs.length := by simpa [lenOf] using hn.symm
                have hxx : xs' = xs := by simpa [elemsOf] using hxs.symm
                subst hns hxx hkh hvh
                obtain ⟨u, hu, hru⟩ := cut3 (E := E) (P := P) ht hi' (by simpa [eszIs] using hes) (.inr rfl) hr hlo hhr hmr ehh hk el
                exact ⟨u, σ, hu, h, Ext.refl σ w, hru⟩
              · cases hs
            · rename_i xh k xs' id off len tot hk hxs
              split at hs
              · rename_i hkh
                simp only [Option.some.injEq, Prod.mk.injEq] at hs
                obtain ⟨rfl, rfl⟩ := hs
                obtain ⟨te, inf, ht, hi', hes⟩ := fits_elem hE hP (by simp) hfits
                obtain ⟨vh, hvh, hhr, ehh⟩ := common k hk hkh xh rfl
                cases hb : boxAt H id tot with
                | none => simp [lenOf, hb] at hn
                | some b =>
                  have hns : n = len := by simpa [lenOf, hb] using hn.symm
                  have hbe : b.esz = inf.size := by simpa [eszIs, hb] using hes
                  obtain ⟨p1, p2, p3⟩ := boxAt_some hb
                  have hget : H.getD id default = b := by simp [List.getD, p1]
                  simp only [elemsOf, hb] at hxs
                  split at hxs
                  · rename_i hcc
                    simp only [Option.some.injEq] at hxs
                    simp only [Bool.and_eq_true, decide_eq_true_eq] at hcc
                    have hfz : frz0 H (.lsl id off len tot) = some (.sl false b.esz ((b.xs.drop off).take len)) := by
                      simp [frz0, hb, hcc.1, hcc.2]
                    obtain ⟨hI, hEx⟩ := h.freeze [id]
                    have hr' := frz0_reps h hr hfz [id] (by simp [ids1])
                    have hlen : xs'.length = n := by rw [← hxs, hns]; simp; omega
                    rw [hxs] at hr'
                    subst hkh hvh
                    rw [← hlen] at ehh hk
                    have hlo' : OptRep (σ.freeze H [id]) w lo vlo := by cases hlo with
                      | none => exact .none
                      | some q => exact .some (q.ext hEx)
                    obtain ⟨u, hu, hru⟩ := cut3 (E := E) (P := P) ht hi' (by simp [hbe]) (.inl rfl) hr' hlo' (hhr.ext hEx) (hmr.ext hEx) ehh hk el
                    rw [hget]
                    exact ⟨u, _, hu, hI, hEx, hru⟩
                  · cases hxs
              · cases hs
            · cases hs
  · cases hs

end Go.Proofs.Ytcjccaonfgcakaa.Le
