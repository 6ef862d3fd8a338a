/-
  An evaluator for the model's code over pure values: calls.
-/
import Derived.Test.YtcjccaonfgcakaaLe21
namespace Go.Proofs.Ytcjccaonfgcakaa.Le
set_option linter.unusedVariables false
open Go.RowKit (Below)

def bare (fz : Nat → Nat → Prop) : Sg := ⟨fun _ => none, fz⟩

theorem Lies.bare {σ σ' : Sg} {w w' : World} {b o : Nat} {us : List Value} (h : Lies σ w b o us) (hfz : ∀ b c, σ.fz b c → σ'.fz b c ∧ w'.cell? ⟨b, c, none⟩ = w.cell? ⟨b, c, none⟩) : Lies σ' w' b o us := fun j u hu => by
  obtain ⟨h1, h2⟩ := h j u hu
  obtain ⟨e1, e2⟩ := hfz _ _ h1
  exact ⟨e1, e2.trans h2⟩

/-- What holds no references does not ask for the boxes. -/
theorem Reps.bare {σ σ' : Sg} {w w' : World} {xs : List V} {vs : List Value} (h : Reps σ w xs vs) (hfz : ∀ b c, σ.fz b c → σ'.fz b c ∧ w'.cell? ⟨b, c, none⟩ = w.cell? ⟨b, c, none⟩) :
    noRefs xs = true → Reps σ' w' xs vs := by
  induction h with
  | nil => intro _; exact .nil
  | und u _ ih => intro hn; simp [noRefs] at hn; exact .und u (ih hn.2)
  | no _ ih => intro hn; simp [noRefs] at hn; exact .no (ih hn.2)
  | lit hl _ ih => intro hn; simp [noRefs] at hn; exact .lit hl (ih hn.2)
  | agg _ ho _ ih1 ih2 => intro hn; simp [noRefs, noRef] at hn; exact .agg (ih1 hn.1) ho (ih2 hn.2)
  | tup _ _ ih1 ih2 => intro hn; simp [noRefs, noRef] at hn; exact .tup (ih1 hn.1) (ih2 hn.2)
  | slnil _ ih => intro hn; simp [noRefs] at hn; exact .slnil (ih hn.2)
  | sltnil _ ih => intro hn; simp [noRefs] at hn; exact .sltnil (ih hn.2)
  | slemp a _ ih => intro hn; simp [noRefs] at hn; exact .slemp a (ih hn.2)
  | sltemp a _ ih => intro hn; simp [noRefs] at hn; exact .sltemp a (ih hn.2)
  | sl b o c e' _ h0 h1 h2 h3 h4 h5 _ ih1 ih2 => intro hn; simp [noRefs, noRef] at hn; exact .sl b o c e' (ih1 hn.1) h0 h1 h2 h3 h4 (h5.bare hfz) (ih2 hn.2)
  | slt b o e' _ h0 h1 h2 h3 h4 _ ih1 ih2 => intro hn; simp [noRefs, noRef] at hn; exact .slt b o e' (ih1 hn.1) h0 h1 h2 h3 (h4.bare hfz) (ih2 hn.2)
  | lsl h1 h2 h3 h4 _ ih => intro hn; simp [noRefs, noRef] at hn
  | ptr g h1 h2 h3 h4 _ ih => intro hn; simp [noRefs, noRef] at hn
  | ept b o e' i off _ h0 h1 h2 h3 _ ih1 ih2 => intro hn; simp [noRefs, noRef] at hn
  | fn _ _ _ ih1 ih2 ih3 => intro hn; simp [noRefs, noRef] at hn; exact .fn (ih1 hn.1.1) (ih2 hn.1.2) (ih3 hn.2)
  | ifc _ _ ih1 ih2 => intro hn; simp [noRefs, noRef] at hn; exact .ifc (ih1 (by simp [noRefs, hn.1])) (ih2 hn.2)

theorem GlobOK.bare {E : Env} {σ σ' : Sg} {w w' : World} (h : GlobOK E σ w) (hfz : ∀ b c, σ.fz b c → σ'.fz b c ∧ w'.cell? ⟨b, c, none⟩ = w.cell? ⟨b, c, none⟩) : GlobOK E σ' w' := by
  intro g r hg
  have hr := h g r hg
  generalize hv : Value.pointer (some ⟨g, 0, none⟩) = v at hr ⊢
  cases hr with
  | ept b o e' i off k0 k1 k2 k3 k4 _ => exact .ept b o _ _ _ (k0.bare hfz (fzV_noRefs k1)) k1 k2 k3 (k4.bare hfz) .nil

/-- What a call with frozen arguments comes to, whatever memory there is. -/
def PureFn (P : Program) (E : Env) (f : FuncId) (as : List V) (r : V) : Prop :=
  ∀ (fz : Nat → Nat → Prop) (w : World) (vs : List Value), (∀ b c, fz b c → ∃ u, w.cell? ⟨b, c, none⟩ = some u) → GlobOK E (bare fz) w → Reps (bare fz) w as vs →
    Calls P f vs.toArray w fun e w' => ∃ u fz', e = .returned u ∧ Below w.heap.size w w' ∧ (∀ b c, fz b c → fz' b c) ∧ (∀ b c, fz' b c → b < w.heap.size → fz b c) ∧
      (∀ b c, fz' b c → ∃ u, w'.cell? ⟨b, c, none⟩ = some u) ∧ Reps (bare fz') w' [r] [u] ∧ noRef r = true

def Entered (P : Program) (f : FuncId) : Prop := ∃ fn, P.funcs[f]? = some fn ∧ fn.body.isNone = false ∧ (fn.name == "runtime.NumGoroutine") = false

/-- The functions that the environment answers for. -/
def EnvFns (P : Program) (E : Env) : Prop := ∀ f F, E.env f = some F → Entered P f ∧ ∀ as r, noRefs as = true → F as = some r → PureFn P E f as r

theorem Below.grownBy {w w' : World} (h : Below w.heap.size w w') : w.grownBy w' none := ⟨h.os, h.tape, h.output, h.size, fun k hk _ => h.block k hk⟩

theorem frzT_noRef {B w0 σ H w} (h : Inv B w0 σ H w) {x x' : V} {v : Value} (hr : Reps σ w [x] [v]) (hf : frzT H x = some x') : noRef x' = true := by
  unfold frzT at hf
  split at hf
  · rename_i vs
    cases hr with
    | tup h1 _ =>
      cases hl : frzAll H vs with
      | none => simp [hl] at hf
      | some vs' =>
        simp only [hl, Option.map_some, Option.some.injEq] at hf
        subst hf
        exact frzAll_noRef h h1 hl
  · exact frz_noRef h hr hf

section
variable {P : Program} {E : Env} {B : Nat} {w0 : Start} {σ : Sg} {H : Heap} {w : World} {f : FuncId}

/-- A pure call, seen from its caller. -/
theorem pure_calls {args as : List V} {r : V} {vs : List Value} (ts : List TypeId) (hp : PureFn P E f (retypeAll E.rows ts as) r) (hf : frzAll H args = some as) (hI : Inv B w0 σ H w) (hg : GlobOK E σ w) (hr : Reps σ w args vs) :
    Calls P f vs.toArray w fun e w' => ∃ u σ', e = .returned u ∧ Inv B w0 σ' (bump H (args.flatMap idsA)) w' ∧ Ext σ w σ' w' ∧ Reps σ' w' [r] [u] := by
  obtain ⟨hI1, hEx1⟩ := hI.freeze (args.flatMap idsA)
  have hr1 := retypeAll_reps E.rows ts (frzAll_reps hI hr hf (args.flatMap idsA) (fun i hi => hi))
  have hn : noRefs (retypeAll E.rows ts as) = true := by rw [retypeAll_noRef]; exact frzAll_noRef hI hr hf
  generalize hσ1 : σ.freeze H (args.flatMap idsA) = σ1 at hI1 hEx1 hr1
  have hbox1 : σ1.box = σ.box := by rw [← hσ1]; rfl
  have hfz0 : ∀ b c, σ1.fz b c → (bare σ1.fz).fz b c ∧ w.cell? ⟨b, c, none⟩ = w.cell? ⟨b, c, none⟩ := fun b c h => ⟨h, rfl⟩
  refine (hp σ1.fz w vs hI1.cells ((hg.ext hEx1).bare hfz0) (hr1.bare hfz0 hn)).mono ?_
  rintro e w' ⟨u, fz', rfl, hb, hmono, hold, hcells, hru, hnr⟩
  obtain ⟨hI2, hEx2⟩ := hI1.grown (Below.grownBy hb)
  have hcell : ∀ b c, σ1.fz b c → w'.cell? ⟨b, c, none⟩ = w.cell? ⟨b, c, none⟩ := fun b c h => (hEx2.fz b c h).2
  have hex : Ext σ1 w' ⟨σ1.box, fz'⟩ w' := ⟨fun id L hL => ⟨L, hL, rfl, .inl rfl⟩, fun b c h => ⟨hmono b c h, rfl⟩⟩
  refine ⟨u, ⟨σ1.box, fz'⟩, rfl, ⟨hI2.below, hI2.size, hI2.dom, fun id bx hb hl => ?_, hI2.apart, hcells, fun b c hc id bx L hb hl hL hown => ?_, hI2.low, fun b c hc hlt => ?_⟩, hEx1.trans (hEx2.trans hex), ?_⟩
  · obtain ⟨L, hL, hok⟩ := hI2.boxes id bx hb hl
    obtain ⟨us, h1, h2, h3, h4⟩ := hok.reps
    exact ⟨L, hL, ⟨hok.tot, ⟨us, h1.ext hex, h2, h3, h4⟩, hok.nilp, hok.esz, hok.oks, hok.fzs⟩⟩
  · obtain ⟨L', hL', hok⟩ := hI1.boxes id bx hb hl
    rw [show σ1.box id = some L from hL] at hL'
    cases hL'
    exact hI1.floor b c (hold b c hc (hok.block_lt hown).2) id bx L hb hl hL hown
  · exact hI1.old b c (hold b c hc (Nat.lt_of_lt_of_le hlt hI1.size)) hlt
  · exact hru.bare (fun b c h => ⟨h, rfl⟩) (by simp [noRefs, hnr])

theorem body_ok (hE : EnvOK E) (hP : E.P = P) {call : CallF} (hcall : CallOK P E B w0 call) (hpure : PureOK E call) {fn : Func} (hfn : E.func f = some fn) {n : Nat} {args : List V} {H' : Heap} {r : V} {vs : List Value}
    (hb : bodyD call n E f fn args H = some (r, H')) (hI : Inv B w0 σ H w) (hg : GlobOK E σ w) (hr : Reps σ w args vs) :
    Entered P f ∧ Calls P f vs.toArray w fun e w' => ∃ u σ', e = .returned u ∧ Inv B w0 σ' H' w' ∧ Ext σ w σ' w' ∧ Reps σ' w' [r] [u] := by
  unfold bodyD at hb
  cases hbody : fn.body with
  | none => simp [hbody] at hb
  | some c =>
    simp only [hbody] at hb
    obtain ⟨hf1, hf2⟩ := hE.func f fn hfn
    rw [hP] at hf1
    refine ⟨⟨fn, hf1, by simp [hbody], hf2⟩, calls_of_wp hf1 hbody ?_⟩
    have hcm := hE.calm f fn c hfn hbody
    have hslots : Reps σ w (args ++ List.replicate (fn.ntmps - args.length) vundef) (vs.toArray ++ Array.replicate (fn.ntmps - vs.toArray.size) undef).toList := by
      simp only [Array.toList_append, Array.toList_replicate, List.size_toArray]
      rw [← hr.length]
      exact hr.append (Reps.replicate _ (.no .nil))
    have hrel : Rel E B w0 σ ⟨args ++ List.replicate (fn.ntmps - args.length) vundef, H⟩ { tmps := vs.toArray ++ Array.replicate (fn.ntmps - vs.toArray.size) undef, defers := [] } w := ⟨hI, hg, hslots, rfl⟩
    have hfin : ∀ st, (resultsD E st.H st.s fn.results.toList).map (·, st.H) = some (r, H') → ∀ a' w' σ', Rel E B w0 σ' st a' w' → Ext σ w σ' w' →
        a'.defers = [] ∧ ∃ v, (results fn a'.tmps).run P w' = .ok v w' ∧ (fun e w' => ∃ u σ', e = Ending.returned u ∧ Inv B w0 σ' H' w' ∧ Ext σ w σ' w' ∧ Reps σ' w' [r] [u]) (.returned v) w' := by
      intro st hres a' w' σ' hr' he'
      cases hx : resultsD E st.H st.s fn.results.toList with
      | none => simp [hx] at hres
      | some x =>
        simp only [hx, Option.map_some, Option.some.injEq, Prod.mk.injEq] at hres
        obtain ⟨rfl, rfl⟩ := hres
        obtain ⟨u, hu, hur⟩ := results_ok (P := P) hE hP hr'.inv hr'.slots hx
        exact ⟨hr'.calm, u, hu, u, σ', rfl, hr'.inv, he', hur⟩
    split at hb
    · rename_i st hc
      exact code_ok hE hP hcall hpure (loop_ok hE hP hcall hpure n) c _ .normal st hcm hc _ σ _ w hrel (hfin st hb)
    · rename_i st hc
      exact code_ok hE hP hcall hpure (loop_ok hE hP hcall hpure n) c _ .ret st hcm hc _ σ _ w hrel (hfin st hb)
    · cases hb

/-- A body that runs on frozen arguments alone. -/
theorem body_pure (hE : EnvOK E) (hP : E.P = P) {call : CallF} (hcall : ∀ B w0, CallOK P E B w0 call) (hpure : PureOK E call) {fn : Func} (hfn : E.func f = some fn) {n : Nat} {as : List V} {H' : Heap} {r0 r : V}
    (hb : bodyD call n E f fn as [] = some (r0, H')) (hfr : frzT H' r0 = some r) : PureFn P E f as r := by
  intro fz w vs hcells hg hr
  have hI : Inv w.heap.size ⟨w, fz⟩ (bare fz) [] w := ⟨Below.refl _ w, Nat.le_refl _, fun id L hL => (by cases hL), fun id bx hb => by simp at hb, fun i j b1 b2 L1 L2 g h1 => by simp at h1, hcells,
    fun b c hc id bx L hb => by simp at hb, fun id bx hb => by simp at hb, fun b c hc _ => hc⟩
  obtain ⟨_, hc⟩ := body_ok hE hP (hcall w.heap.size ⟨w, fz⟩) hpure hfn hb hI hg hr
  refine hc.mono ?_
  rintro e w' ⟨u, σ', rfl, hI', hEx', hr'⟩
  obtain ⟨hI2, hEx2⟩ := hI'.freeze (idsT r0)
  have hr2 := frzT_reps hI' hr' hfr (idsT r0) (fun i hi => hi)
  have hn := frzT_noRef hI' hr' hfr
  refine ⟨u, (σ'.freeze H' (idsT r0)).fz, rfl, hI2.below, fun b c h => (hEx2.fz b c (hEx'.fz b c h).1).1, fun b c h hlt => hI2.old b c h hlt, hI2.cells, ?_, hn⟩
  exact hr2.bare (fun b c h => ⟨h, rfl⟩) (by simp [noRefs, hn])

theorem frzAll_length {H : Heap} : ∀ {xs ys : List V}, frzAll H xs = some ys → xs.length = ys.length := by
  intro xs
  induction xs with
  | nil => intro ys h; simp [frzAll] at h; subst h; rfl
  | cons x xs ih =>
    intro ys h
    simp only [frzAll] at h
    split at h
    · rename_i a b ha hb
      simp only [Option.some.injEq] at h
      subst h
      simp [ih hb]
    · cases h

theorem callD_pure (n : Nat) : PureOK E (callD E n) := by
  intro f hp args H v H1 h
  cases n with
  | zero => cases h
  | succ n =>
    unfold callD at h
    cases henv : E.env f with
    | some F =>
      simp only [henv] at h
      cases hf : frzAll H args with
      | none => simp [hf] at h
      | some as =>
        simp only [hf] at h
        cases hF : F (retypeAll E.rows (E.par f) as) with
        | none => simp [hF] at h
        | some r =>
          simp only [hF, Option.map_some, Option.some.injEq, Prod.mk.injEq] at h
          refine ⟨h.2.symm, fun H' hs => ?_⟩
          unfold callD
          simp only [henv]
          rw [frzAll_sim hs, hf]
          simp only [hF, Option.map_some, h.1]
    | none =>
      have hpf : E.pure f = true := by simpa [henv] using hp
      simp only [henv, hpf, if_true] at h
      cases hfn : E.func f with
      | none => simp [hfn] at h
      | some fn =>
        simp only [hfn] at h
        cases hf : frzAll H args with
        | none => simp [hf] at h
        | some as =>
          simp only [hf] at h
          cases hbd : bodyD (callD E n) n E f fn as [] with
          | none => simp [hbd] at h
          | some rr =>
            obtain ⟨r0, H2⟩ := rr
            simp only [hbd] at h
            cases hft : frzT H2 r0 with
            | none => simp [hft] at h
            | some r =>
              simp only [hft, Option.map_some, Option.some.injEq, Prod.mk.injEq] at h
              refine ⟨h.2.symm, fun H' hs => ?_⟩
              unfold callD
              simp only [henv, hpf, if_true, hfn]
              rw [frzAll_sim hs, hf]
              simp only [hbd, hft, Option.map_some, h.1]

/-- **Calls that the evaluator answers.** -/
theorem callD_ok (hE : EnvOK E) (hP : E.P = P) (hF : EnvFns P E) : ∀ (n : Nat) (B : Nat) (w0 : Start), CallOK P E B w0 (callD E n) := by
  intro n
  induction n with
  | zero => intro B w0 f args H x H' σ w vs h; cases h
  | succ n ih =>
    intro B w0 f args H x H' σ w vs h hI hg hr
    unfold callD at h
    cases henv : E.env f with
    | some F =>
      simp only [henv] at h
      cases hf : frzAll H args with
      | none => simp [hf] at h
      | some as =>
        simp only [hf] at h
        cases hFa : F (retypeAll E.rows (E.par f) as) with
        | none => simp [hFa] at h
        | some r =>
          simp only [hFa, Option.map_some, Option.some.injEq, Prod.mk.injEq] at h
          obtain ⟨rfl, rfl⟩ := h
          obtain ⟨h1, h2⟩ := hF f F henv
          exact ⟨h1, pure_calls (E.par f) (h2 _ r (by rw [retypeAll_noRef]; exact frzAll_noRef hI hr hf) hFa) hf hI hg hr⟩
    | none =>
      simp only [henv] at h
      cases hfn : E.func f with
      | none => simp [hfn] at h
      | some fn =>
        simp only [hfn] at h
        split at h
        · cases hf : frzAll H args with
          | none => simp [hf] at h
          | some as =>
            simp only [hf] at h
            cases hbd : bodyD (callD E n) n E f fn as [] with
            | none => simp [hbd] at h
            | some rr =>
              obtain ⟨r0, H2⟩ := rr
              simp only [hbd] at h
              cases hft : frzT H2 r0 with
              | none => simp [hft] at h
              | some r =>
                simp only [hft, Option.map_some, Option.some.injEq, Prod.mk.injEq] at h
                obtain ⟨rfl, rfl⟩ := h
                have hent : Entered P f := by
                  obtain ⟨hf1, hf2⟩ := hE.func f fn hfn
                  rw [hP] at hf1
                  refine ⟨fn, hf1, ?_, hf2⟩
                  unfold bodyD at hbd
                  cases hb : fn.body with
                  | none => simp [hb] at hbd
                  | some c => rfl
                exact ⟨hent, pure_calls [] (by simpa [retypeAll] using body_pure hE hP ih (callD_pure n) hfn hbd hft) hf hI hg hr⟩
        · exact body_ok hE hP (ih B w0) (callD_pure n) hfn h hI hg hr

/-- **What a pure call answers.** -/
theorem pureFn_of {n : Nat} {as : List V} {r : V} {H' : Heap} (hE : EnvOK E) (hP : E.P = P) (hF : EnvFns P E) (hp : E.pure f = true) (hne : E.env f = none) (hn : frzAll [] as = some as) (h : callD E (n + 1) f as [] = some (r, H')) : PureFn P E f as r := by
  unfold callD at h
  simp only [hne] at h
  cases hfn : E.func f with
  | none => simp [hfn] at h
  | some fn =>
    simp only [hfn, hp, if_true, hn] at h
    cases hbd : bodyD (callD E n) n E f fn as [] with
    | none => simp [hbd] at h
    | some rr =>
      obtain ⟨r0, H2⟩ := rr
      simp only [hbd] at h
      cases hft : frzT H2 r0 with
      | none => simp [hft] at h
      | some r' =>
        simp only [hft, Option.map_some, Option.some.injEq, Prod.mk.injEq] at h
        obtain ⟨rfl, _⟩ := h
        exact body_pure hE hP (callD_ok hE hP hF n) (callD_pure n) hfn hbd hft

end

end Go.Proofs.Ytcjccaonfgcakaa.Le
