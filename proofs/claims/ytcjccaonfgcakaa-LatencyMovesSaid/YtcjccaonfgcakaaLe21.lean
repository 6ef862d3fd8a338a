/-
  An evaluator for the model's code over pure values: code, loops, bodies and calls.
-/
import Derived.Test.YtcjccaonfgcakaaLe20
import Derived.LoopN
namespace Go.Proofs.Ytcjccaonfgcakaa.Le
set_option linter.unusedVariables false
open Go.RowKit (Below)

def Ex.out : Ex → Exit
  | .normal => .normal
  | .ret => .ret
  | .exit id => .exit id

def LoopOK (P : Program) (E : Env) (B : Nat) (w0 : Start) (f : FuncId) (lp : Code → St → Option (Ex × St)) : Prop :=
  ∀ b st ex st', calmC E f b = true → lp b st = some (ex, st') → ∀ (Q : Exit → Act → World → Prop) σ a w, Rel E B w0 σ st a w →
    (∀ a' w' σ', Rel E B w0 σ' st' a' w' → Ext σ w σ' w' → Q ex.out a' w') → (Code.loop b).wp P Q a w

section
variable {P : Program} {E : Env} {B : Nat} {w0 : Start} {call : CallF} {f : FuncId}

theorem code_ok (hE : EnvOK E) (hP : E.P = P) (hcall : CallOK P E B w0 call) (hpure : PureOK E call) {lp : Code → St → Option (Ex × St)} (hlp : LoopOK P E B w0 f lp) :
    ∀ (c : Code) (st : St) (ex : Ex) (st' : St), calmC E f c = true → codeD call lp E f c st = some (ex, st') → ∀ (Q : Exit → Act → World → Prop) (σ : Sg) (a : Act) (w : World), Rel E B w0 σ st a w →
      (∀ a' w' σ', Rel E B w0 σ' st' a' w' → Ext σ w σ' w' → Q ex.out a' w') → c.wp P Q a w := by
  intro c
  induction c with
  | skip =>
    intro st ex st' hc h Q σ a w hr hn
    simp only [codeD, Option.some.injEq, Prod.mk.injEq] at h
    obtain ⟨rfl, rfl⟩ := h
    exact wp_skip (hn a w σ hr (Ext.refl σ w))
  | region id ops draw =>
    intro st ex st' hc h Q σ a w hr hn
    cases draw with
    | false =>
      simp only [codeD] at h
      cases hs : opsD call E ops (List.range ops.size) st with
      | none => simp [hs] at h
      | some r =>
        simp only [hs, Option.map_some, Option.some.injEq, Prod.mk.injEq] at h
        obtain ⟨rfl, rfl⟩ := h
        exact wp_region (opsD_ok hE hP hcall _ st σ a w hr hs hn)
    | true =>
      simp only [codeD] at h
      split at h
      · rename_i hcalm
        cases hs : drawD call E ops st with
        | none => simp [hs] at h
        | some r =>
          simp only [hs, Option.map_some, Option.some.injEq, Prod.mk.injEq] at h
          obtain ⟨rfl, rfl⟩ := h
          refine draw_ok hE hP (by rw [← hP]; exact hE.mix) hcall hpure ?_ hr hs hn
          simpa [calmC, hcalm] using hc
      · cases h
  | seq x y ihx ihy =>
    intro st ex st' hc h Q σ a w hr hn
    simp only [calmC, Bool.and_eq_true] at hc
    simp only [codeD] at h
    split at h
    · rename_i st1 h1
      exact wp_seq (ihx st .normal st1 hc.1 h1 _ σ a w hr (fun a1 w1 σ1 hr1 he1 => ihy st1 ex st' hc.2 h Q σ1 a1 w1 hr1 (fun a' w' σ' hr' he' => hn a' w' σ' hr' (he1.trans he'))))
    · rename_i hne
      refine wp_seq (ihx st ex st' hc.1 h _ σ a w hr (fun a1 w1 σ1 hr1 he1 => ?_))
      have := hn a1 w1 σ1 hr1 he1
      cases ex with
      | normal => exact absurd h (hne _)
      | ret => exact this
      | exit id => exact this
  | cond c x y ihx ihy =>
    intro st ex st' hc h Q σ a w hr hn
    simp only [calmC, Bool.and_eq_true] at hc
    simp only [codeD] at h
    split at h
    · rename_i t ht
      have hv := ev_reps (a := a) hr.glob hr.slots c
      rw [ht] at hv
      have hb : a.eval c = .bool t := by generalize a.eval c = v at hv; cases hv; rfl
      refine wp_cond hb ?_
      cases t with
      | true => exact ihx st ex st' hc.1 h Q σ a w hr hn
      | false => exact ihy st ex st' hc.2 h Q σ a w hr hn
    · cases h
  | block id b ih =>
    intro st ex st' hc h Q σ a w hr hn
    simp only [calmC] at hc
    simp only [codeD] at h
    split at h
    · rename_i i st1 h1
      refine wp_block (ih st (.exit i) st1 hc h1 _ σ a w hr (fun a1 w1 σ1 hr1 he1 => ?_))
      simp only [Ex.out, Exit.inBlock]
      split at h
      · rename_i hi
        cases h
        rw [if_pos hi]
        exact hn a1 w1 σ1 hr1 he1
      · rename_i hi
        cases h
        rw [if_neg hi]
        exact hn a1 w1 σ1 hr1 he1
    · rename_i hne
      refine wp_block (ih st ex st' hc h _ σ a w hr (fun a1 w1 σ1 hr1 he1 => ?_))
      have := hn a1 w1 σ1 hr1 he1
      cases ex with
      | normal => exact this
      | ret => exact this
      | exit i => exact absurd h (hne _ _)
  | loop b ih =>
    intro st ex st' hc h Q σ a w hr hn
    exact hlp b st ex st' hc h Q σ a w hr hn
  | exit id =>
    intro st ex st' hc h Q σ a w hr hn
    simp only [codeD, Option.some.injEq, Prod.mk.injEq] at h
    obtain ⟨rfl, rfl⟩ := h
    exact wp_exit (hn a w σ hr (Ext.refl σ w))
  | ret =>
    intro st ex st' hc h Q σ a w hr hn
    simp only [codeD, Option.some.injEq, Prod.mk.injEq] at h
    obtain ⟨rfl, rfl⟩ := h
    exact wp_ret (hn a w σ hr (Ext.refl σ w))
  | _ =>
    intro st ex st' hc h
    cases h

theorem loop_ok (hE : EnvOK E) (hP : E.P = P) (hcall : CallOK P E B w0 call) (hpure : PureOK E call) : ∀ n, LoopOK P E B w0 f (loopD call E f n) := by
  have key : ∀ n, ∀ b st ex st', calmC E f b = true → loopD call E f n b st = some (ex, st') → ∀ (Q : Exit → Act → World → Prop) σ a w, Rel E B w0 σ st a w →
    (∀ a' w' σ', Rel E B w0 σ' st' a' w' → Ext σ w σ' w' → Q ex.out a' w') → Code.rounds P b Q n a w := by
    intro n
    induction n with
    | zero => intro b st ex st' hc h; cases h
    | succ n ih =>
      intro b st ex st' hc h Q σ a w hr hn
      rw [rounds_succ]
      have hlp : LoopOK P E B w0 f (loopD call E f n) := fun b st ex st' hc h Q σ a w hr hn => wp_loop_rounds n (ih b st ex st' hc h Q σ a w hr hn)
      simp only [loopD] at h
      split at h
      · rename_i st1 h1
        exact code_ok hE hP hcall hpure hlp b st .normal st1 hc h1 _ σ a w hr (fun a1 w1 σ1 hr1 he1 => ih b st1 ex st' hc h Q σ1 a1 w1 hr1 (fun a' w' σ' hr' he' => hn a' w' σ' hr' (he1.trans he')))
      · rename_i hne
        refine code_ok hE hP hcall hpure hlp b st ex st' hc h _ σ a w hr (fun a1 w1 σ1 hr1 he1 => ?_)
        have := hn a1 w1 σ1 hr1 he1
        cases ex with
        | normal => exact absurd h (hne _)
        | ret => exact this
        | exit id => exact this
  exact fun n b st ex st' hc h Q σ a w hr hn => wp_loop_rounds n (key n b st ex st' hc h Q σ a w hr hn)

/-! ### results and bodies -/

theorem loadVar_ok {σ : Sg} {H : Heap} {w : World} (hE : EnvOK E) (hP : E.P = P) (hI : Inv B w0 σ H w) {t : TypeId} {x r : V} {v : Value} (hx : Reps σ w [x] [v]) (h : loadD E H t x = some r) :
    ∃ u, (do loadVar t (← asAddr v) : Sem Value).run P w = .ok u w ∧ Reps σ w [r] [u] := by
  obtain ⟨u, hu, hr⟩ := load_ok (P := P) hE hP hI hx h
  refine ⟨u, ?_, hr⟩
  have hv : ∃ A, v = .pointer (some A) := by
    unfold loadD at h
    split at h
    · cases h
    · split at h
      · cases hx; exact ⟨_, rfl⟩
      · cases hx with
        | ptr g _ _ _ h4 _ => exact ⟨_, h4⟩
      · cases h
  obtain ⟨A, rfl⟩ := hv
  rw [← hu]
  simp [Instr.loadAt, asAddr, Instr.sureAddr]

theorem res_ok {σ : Sg} {H : Heap} {w : World} {s : List V} {tmps : Array Value} (hE : EnvOK E) (hP : E.P = P) (hI : Inv B w0 σ H w) (hs : Reps σ w s tmps.toList) : ∀ (rs : List ResultVar) (xs : List V), rs.mapM (resD E H s) = some xs →
    ∃ vs, (rs.mapM (fun (r : ResultVar) => (match r with | .tmp t => pure (tmps.getD t undef) | .cell a t => do loadVar t (← asAddr (tmps.getD a undef)) : Sem Value))).run P w = .ok vs w ∧ Reps σ w xs vs := by
  have hget : ∀ t, Reps σ w [s.getD t .und] [tmps.getD t undef] := fun t => by
    have := getD_reps hs t
    simpa using this
  intro rs
  induction rs with
  | nil =>
    intro xs h
    simp at h
    subst h
    exact ⟨[], rfl, .nil⟩
  | cons r rs ih =>
    intro xs h
    rw [List.mapM_cons] at h
    cases hr : resD E H s r with
    | none => simp [hr] at h
    | some x =>
      cases hrs : rs.mapM (resD E H s) with
      | none => simp [hr, hrs] at h
      | some xs' =>
        simp [hr, hrs] at h
        subst h
        obtain ⟨vs, hv, hx⟩ := ih xs' hrs
        have h1 : ∃ u, ((match r with | .tmp t => pure (tmps.getD t undef) | .cell a t => do loadVar t (← asAddr (tmps.getD a undef)) : Sem Value)).run P w = .ok u w ∧ Reps σ w [x] [u] := by
          cases r with
          | tmp t =>
            simp only [resD, Option.some.injEq] at hr
            subst hr
            exact ⟨_, rfl, hget t⟩
          | cell a t => exact loadVar_ok hE hP hI (hget a) hr
        obtain ⟨u, hu, hur⟩ := h1
        refine ⟨u :: vs, ?_, Reps.cons_iff.2 ⟨hur, hx⟩⟩
        rw [List.mapM_cons, Sem.run_bind, hu, Result.andThen_ok, Sem.run_bind, hv, Result.andThen_ok]
        rfl

theorem results_ok {σ : Sg} {H : Heap} {w : World} {s : List V} {tmps : Array Value} (hE : EnvOK E) (hP : E.P = P) (hI : Inv B w0 σ H w) (hs : Reps σ w s tmps.toList) {fn : Func} {x : V} (h : resultsD E H s fn.results.toList = some x) :
    ∃ u, (results fn tmps).run P w = .ok u w ∧ Reps σ w [x] [u] := by
  unfold resultsD at h
  cases hm : fn.results.toList.mapM (resD E H s) with
  | none => simp [hm] at h
  | some xs =>
    obtain ⟨vs, hv, hr⟩ := res_ok (P := P) hE hP hI hs _ xs hm
    have hrun : (results fn tmps).run P w = .ok (if h : vs.toArray.size = 1 then vs.toArray[0] else .tuple vs.toArray) w := by
      unfold results
      rw [Sem.run_bind]
      have hm2 : (fn.results.mapM (fun (r : ResultVar) => (match r with | .tmp t => pure (tmps.getD t undef) | .cell a t => do loadVar t (← asAddr (tmps.getD a undef)) : Sem Value))).run P w = .ok vs.toArray w := by
        rw [Array.mapM_eq_mapM_toList, map_eq_pure_bind, Sem.run_bind, hv, Result.andThen_ok]
        rfl
      have := congrArg (fun r => Result.andThen r fun (vs : Array Value) (w' : World) => (pure (if h : vs.size = 1 then vs[0] else .tuple vs) : Sem Value).run P w') hm2
      exact this
    refine ⟨_, hrun, ?_⟩
    rw [hm] at h
    have hlen := hr.length
    split at h
    · rename_i v hh
      cases hh
      simp only [Option.some.injEq] at h
      subst h
      obtain ⟨u, vs', rfl, h1, h2⟩ := hr.cons_left
      cases h2.nil_left
      simpa using h1
    · rename_i ys hne hh
      cases hh
      simp only [Option.some.injEq] at h
      subst h
      have : ¬ vs.toArray.size = 1 := by
        intro hh
        simp at hh
        rw [← hlen] at hh
        obtain ⟨y, rfl⟩ := List.length_eq_one_iff.1 hh
        exact hne y rfl
      rw [dif_neg this]
      exact .tup hr .nil
    · rename_i hh; cases hh

end

end Go.Proofs.Ytcjccaonfgcakaa.Le
