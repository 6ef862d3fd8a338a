/-
  An evaluator for the model's code over pure values: the operations of a region in their own order.
-/
import Derived.Test.YtcjccaonfgcakaaLe16
import Derived.Orders
namespace Go.Proofs.Ytcjccaonfgcakaa.Le
set_option linter.unusedVariables false
open Go.RowKit (Below)

/-- How the evaluator's state stands to the model's. -/
structure Rel (E : Env) (B : Nat) (w0 : Start) (σ : Sg) (st : St) (a : Act) (w : World) : Prop where
  inv : Inv B w0 σ st.H w
  glob : GlobOK E σ w
  slots : Reps σ w st.s a.tmps.toList
  calm : a.defers = []

theorem put_slots {σ w s x u} {a : Act} (h : Reps σ w s a.tmps.toList) (hx : Reps σ w [x] [u]) (d : Option Tmp) : Reps σ w (setSlot s d x) (a.put d u).tmps.toList := by
  cases d with
  | none => exact h
  | some d =>
    simp only [setSlot, Act.put, Array.toList_setIfInBounds]
    exact h.set d hx

theorem put_calm {a : Act} (h : a.defers = []) (d : Option Tmp) (u : Value) : (a.put d u).defers = [] := by
  cases d <;> exact h

theorem guard_ok {σ w s} {a : Act} {ops : Array Oper} (h : Reps σ w s a.tmps.toList) {j d : Nat} {want r : Bool} (hd : (ops[j]?).bind (·.dst) = some d) (hg : guardD (s.getD d .und) want = some r) :
    (yielded ops a.tmps j == some want) = r := by
  unfold yielded
  rw [hd]
  have hcase : ∀ x, s.getD d .und = x → x ≠ .und → ∃ v, a.tmps[d]? = some v ∧ Reps σ w [x] [v] := by
    intro x hx hne
    cases hs : s[d]? with
    | none => simp [List.getD, hs] at hx; exact absurd hx.symm hne
    | some y =>
      simp [List.getD, hs] at hx
      subst hx
      obtain ⟨v, hv, hr⟩ := h.get hs
      exact ⟨v, by simpa using hv, hr⟩
  unfold guardD at hg
  split at hg
  · rename_i b hb
    obtain ⟨v, hv, hr⟩ := hcase _ hb (by simp)
    simp only [Option.some.injEq] at hg
    have : v = .bool b := by cases hr; rfl
    subst this
    simp only [Option.bind_some, hv]
    rw [← hg]
    cases b <;> cases want <;> rfl
  · rename_i hb
    obtain ⟨v, hv, hr⟩ := hcase _ hb (by simp)
    simp only [Option.some.injEq] at hg
    have : v = undef := by cases hr; rfl
    subst this
    simp only [Option.bind_some, hv]
    rw [← hg]
    rfl
  · cases hg

section
variable {E : Env} {B : Nat} {w0 : Start} {σ : Sg} {P : Program} {call : CallF} {ops : Array Oper} {st st' : St} {a : Act} {w : World}

theorem stepAt_ok (hE : EnvOK E) (hP : E.P = P) (hcall : CallOK P E B w0 call) {k i : Nat} (hk : freeB st.H k = true) (h : Rel E B w0 σ st a w) (hs : stepAt call E ops k i st = some st')
    {K : Act → World → Prop} {Q : Exit → Act → World → Prop} (hn : ∀ a' w' σ', Rel E B w0 σ' st' a' w' → Ext σ w σ' w' → K a' w') : wpOp P ops Q i K a w := by
  unfold stepAt at hs
  unfold wpOp
  cases ho : ops[i]? with
  | none =>
    simp only [ho, Option.some.injEq] at hs ⊢
    subst hs
    exact hn a w σ h (Ext.refl σ w)
  | some o =>
    simp only [ho] at hs ⊢
    have hop : ∀ x H', opD call E k st.H st.s o = some (x, H') → st' = ⟨setSlot st.s o.dst x, H'⟩ → o.wp P a w K Q := by
      intro x H' hx hst
      refine op_sound hE hP hcall h.inv h.glob hk h.slots o x H' hx K Q (fun u w' σ' h1 h2 h3 => hn _ w' σ' ⟨?_, h.glob.ext h2, ?_, put_calm h.calm _ _⟩ h2)
      · rw [hst]; exact h1
      · rw [hst]; exact put_slots (h.slots.ext h2) h3 o.dst
    have hskip : st' = ⟨setSlot st.s o.dst vundef, st.H⟩ → K (a.put o.dst undef) w := by
      intro hst
      refine hn _ w σ ⟨by rw [hst]; exact h.inv, h.glob, ?_, put_calm h.calm _ _⟩ (Ext.refl σ w)
      rw [hst]
      exact put_slots h.slots (.no .nil) o.dst
    cases hact : actD call E ops k o st with
    | none => simp [hact] at hs
    | some r =>
      obtain ⟨v, H'⟩ := r
      simp only [hact, Option.some.injEq] at hs
      unfold actD at hact
      unfold Region.wanted
      cases hgd : o.guard with
      | none =>
        simp only [hgd] at hact ⊢
        exact .inl (hop v H' hact hs.symm)
      | some jw =>
        obtain ⟨j, want⟩ := jw
        simp only [hgd] at hact ⊢
        cases hd : (ops[j]?).bind (·.dst) with
        | none => simp [hd] at hact
        | some d =>
          simp only [hd] at hact
          cases hg : guardD (st.s.getD d .und) want with
          | none => rw [hg] at hact; cases hact
          | some r =>
            rw [hg] at hact
            simp only [guard_ok h.slots hd hg]
            cases r with
            | false =>
              simp only [Option.some.injEq, Prod.mk.injEq] at hact
              obtain ⟨rfl, rfl⟩ := hact
              simp only [Bool.false_eq_true, if_false]
              exact hskip hs.symm
            | true =>
              simp only at hact
              simp only [if_true]
              exact .inl (hop v H' hact hs.symm)

theorem opsD_ok (hE : EnvOK E) (hP : E.P = P) (hcall : CallOK P E B w0 call) : ∀ (is : List Nat) (st : St) (σ : Sg) (a : Act) (w : World), Rel E B w0 σ st a w → opsD call E ops is st = some st' →
    ∀ {Q : Exit → Act → World → Prop}, (∀ a' w' σ', Rel E B w0 σ' st' a' w' → Ext σ w σ' w' → Q .normal a' w') → wpOps P ops Q is a w := by
  intro is
  induction is with
  | nil =>
    intro st σ a w h hs Q hn
    simp only [opsD, Option.some.injEq] at hs
    subst hs
    exact hn a w σ h (Ext.refl σ w)
  | cons i rest ih =>
    intro st σ a w h hs Q hn
    simp only [opsD] at hs
    cases h1 : stepD call E ops i st with
    | none => simp [h1] at hs
    | some st1 =>
      simp only [h1] at hs
      rw [wpOps_cons]
      exact stepAt_ok hE hP hcall (freeB_end st.H) h h1 (fun a1 w1 σ1 hr1 he1 => ih st1 σ1 a1 w1 hr1 hs (fun a' w' σ' hr he => hn a' w' σ' hr (he1.trans he)))
end

end Go.Proofs.Ytcjccaonfgcakaa.Le
