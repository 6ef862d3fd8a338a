/-
  An evaluator for the model's code over pure values: calls.
-/
import Derived.Test.YtkepnndakhpgoaaGreatDoorL3
namespace Go.Proofs.YtkepnndakhpgoaaGreatDoor.Le
set_option linter.unusedVariables false
open Go.RowKit (Below)

/-- What a call with frozen arguments comes to, whatever memory there is. -/
def PureFn (P : Program) (E : Env) (f : FuncId) (as : List V) (r : V) : Prop :=
  ∀ (fz : Nat → Nat → Prop) (w : World) (vs : List Value), (∀ b c, fz b c → ∃ u, w.cell? ⟨b, c, none⟩ = some u) → GlobOK E (bare fz) w → Reps (bare fz) w as vs →
    Calls P f vs.toArray w fun e w' => ∃ u fz', e = .returned u ∧ Below w.heap.size w w' ∧ (∀ b c, fz b c → fz' b c) ∧ (∀ b c, fz' b c → b < w.heap.size → fz b c) ∧
      (∀ b c, fz' b c → ∃ u, w'.cell? ⟨b, c, none⟩ = some u) ∧ Reps (bare fz') w' [r] [u] ∧ noRef r = true

/-- The same of a function whose result is a slice with a row of its own. -/
def PureOwn (P : Program) (E : Env) (f : FuncId) (as : List V) (e sz : Nat) (xs : List V) : Prop :=
  ∀ (fz : Nat → Nat → Prop) (w : World) (vs : List Value), (∀ b c, fz b c → ∃ u, w.cell? ⟨b, c, none⟩ = some u) → GlobOK E (bare fz) w → Reps (bare fz) w as vs →
    Calls P f vs.toArray w fun en w' => ∃ u us fz', en = .returned u ∧ Below w.heap.size w w' ∧ (∀ b c, fz b c → fz' b c) ∧ (∀ b c, fz' b c → b < w.heap.size → fz b c) ∧
      (∀ b c, fz' b c → ∃ u, w'.cell? ⟨b, c, none⟩ = some u) ∧ Reps (bare fz') w' xs us ∧ (∀ x ∈ xs, fzV x = true) ∧ (∀ u ∈ us, u.cells.size = sz) ∧ (∀ u ∈ flat us, u.oneCell' = true) ∧
      ownR w' w.heap.size e sz u xs.length (flat us) ∧ (∀ g c, u.ownBlock = some g → ¬ fz' g c)

def Entered (P : Program) (f : FuncId) : Prop := ∃ fn, P.funcs[f]? = some fn ∧ fn.body.isNone = false ∧ (fn.name == "runtime.NumGoroutine") = false

/-- The functions that the environment answers for. -/
structure EnvFns (P : Program) (E : Env) : Prop where
  env : ∀ f F, E.env f = some F → Entered P f ∧ ∀ as r, noRefs as = true → F as = some r → match E.own f with | none => PureFn P E f as r | some e => ∀ sz xs, r = .sl false sz xs → PureOwn P E f as e sz xs
  hm : ∀ f key hs, E.hm f key = some hs → Entered P f ∧ ∀ as H0 r H1, hs.run as H0 = some (r, H1) → HeapFn P E f as H0 r H1

theorem Below.grownBy {w w' : World} (h : Below w.heap.size w w') : w.grownBy w' none := ⟨h.os, h.tape, h.output, h.size, fun k hk _ => h.block k hk⟩

theorem frzT_noRef {B w0 σ H w} (h : Inv B w0 σ H w) {x x' : V} {v : Value} (hr : Reps σ w [x] [v]) (hf : frzT H x = some x') : noRef x' = true := by
  unfold frzT at hf
  split at hf
  · rename_i vs
    cases hr with
    | tup h1 _ =>
      cases hl : frzAll H vs with
      | none => simp [hl] at hf
      | some vs' =>
        simp only [hl, Option.map_some, Option.some.injEq] at hf
        subst hf
        exact frzAll_noRef h h1 hl
  · exact frz_noRef h hr hf

section
variable {P : Program} {E : Env} {B : Nat} {w0 : Start} {σ : Sg} {H : Heap} {w : World} {f : FuncId}

/-- A pure call, seen from its caller. -/
theorem pure_calls {args as : List V} {r : V} {vs : List Value} (ts : List TypeId) (hp : PureFn P E f (retypeAll E.rows ts as) r) (hf : frzAll H args = some as) (hI : Inv B w0 σ H w) (hg : GlobOK E σ w) (hr : Reps σ w args vs) :
    Calls P f vs.toArray w fun e w' => ∃ u σ', e = .returned u ∧ Inv B w0 σ' (bump H (args.flatMap idsA)) w' ∧ Ext σ w σ' w' ∧ Reps σ' w' [r] [u] := by
  obtain ⟨hI1, hEx1⟩ := hI.freeze (args.flatMap idsA)
  have hr1 := retypeAll_reps E.rows ts (frzAll_reps hI hr hf (args.flatMap idsA) (fun i hi => hi))
  have hn : noRefs (retypeAll E.rows ts as) = true := by rw [retypeAll_noRef]; exact frzAll_noRef hI hr hf
  generalize hσ1 : σ.freeze H (args.flatMap idsA) = σ1 at hI1 hEx1 hr1
  have hbox1 : σ1.box = σ.box := by rw [← hσ1]; rfl
  have hfz0 : ∀ b c, σ1.fz b c → (bare σ1.fz).fz b c ∧ w.cell? ⟨b, c, none⟩ = w.cell? ⟨b, c, none⟩ := fun b c h => ⟨h, rfl⟩
  refine (hp σ1.fz w vs hI1.cells ((hg.ext hEx1).bare hfz0) (hr1.bare hfz0 hn)).mono ?_
  rintro e w' ⟨u, fz', rfl, hb, hmono, hold, hcells, hru, hnr⟩
  obtain ⟨hI2, hEx2⟩ := hI1.grown (Below.grownBy hb)
  have hcell : ∀ b c, σ1.fz b c → w'.cell? ⟨b, c, none⟩ = w.cell? ⟨b, c, none⟩ := fun b c h => (hEx2.fz b c h).2
  have hex : Ext σ1 w' ⟨σ1.box, fz'⟩ w' := ⟨fun id L hL => ⟨L, hL, rfl, .inl rfl⟩, fun b c h => ⟨hmono b c h, rfl⟩⟩
  refine ⟨u, ⟨σ1.box, fz'⟩, rfl, ⟨hI2.below, hI2.size, hI2.dom, fun id bx hb hl => ?_, hI2.apart, hcells, fun b c hc id bx L hb hl hL hown => ?_, hI2.low, fun b c hc hlt => ?_, fun b hb => ?_⟩, hEx1.trans (hEx2.trans hex), ?_⟩
  · obtain ⟨L, hL, hok⟩ := hI2.boxes id bx hb hl
    obtain ⟨us, h1, h2, h3, h4⟩ := hok.reps
    exact ⟨L, hL, ⟨hok.tot, ⟨us, h1.ext hex, h2, h3, h4⟩, hok.nilp, hok.esz, hok.oks, hok.fzs⟩⟩
  · obtain ⟨L', hL', hok⟩ := hI1.boxes id bx hb hl
    rw [show σ1.box id = some L from hL] at hL'
    cases hL'
    exact hI1.floor b c (hold b c hc (hok.block_lt hown).2) id bx L hb hl hL hown
  · exact hI1.old b c (hold b c hc (Nat.lt_of_lt_of_le hlt hI1.size)) hlt
  · obtain ⟨k1, k2, k3, k4⟩ := hI2.kept b hb
    exact ⟨k1, k2, k3, fun c hc => k4 c (hold b c hc (hI1.kept b hb).1)⟩
  · exact hru.bare (fun b c h => ⟨h, rfl⟩) (by simp [noRefs, hnr])

theorem ownsRow_base {w : World} {b b' e sz n : Nat} {v : Value} {us : List Value} (h : ownR w b e sz v n us) (hb : b' ≤ b) : ownR w b' e sz v n us := by
  refine ⟨h.1, ?_⟩
  rcases h.2 with h | ⟨g, cap, cur, tg, h1, h2, h3⟩
  · exact .inl h
  · exact .inr ⟨g, cap, cur, tg, h1, by omega, h3⟩

/-- Such a call, seen from its caller: a new box. -/
theorem own_calls {args as : List V} {e sz : Nat} {xs : List V} {vs : List Value} (ts : List TypeId) (hp : PureOwn P E f (retypeAll E.rows ts as) e sz xs) (hf : frzAll H args = some as) (hI : Inv B w0 σ H w) (hg : GlobOK E σ w) (hr : Reps σ w args vs) :
    Calls P f vs.toArray w fun en w' => ∃ u σ', en = .returned u ∧ Inv B w0 σ' (place (bump H (args.flatMap idsA)) H.length (newBox true false e sz xs)) w' ∧ Ext σ w σ' w' ∧ Reps σ' w' [.lsl H.length 0 xs.length xs.length] [u] := by
  obtain ⟨hI1, hEx1⟩ := hI.freeze (args.flatMap idsA)
  have hr1 := retypeAll_reps E.rows ts (frzAll_reps hI hr hf (args.flatMap idsA) (fun i hi => hi))
  have hn : noRefs (retypeAll E.rows ts as) = true := by rw [retypeAll_noRef]; exact frzAll_noRef hI hr hf
  generalize hσ1 : σ.freeze H (args.flatMap idsA) = σ1 at hI1 hEx1 hr1
  have hfz0 : ∀ b c, σ1.fz b c → (bare σ1.fz).fz b c ∧ w.cell? ⟨b, c, none⟩ = w.cell? ⟨b, c, none⟩ := fun b c h => ⟨h, rfl⟩
  refine (hp σ1.fz w vs hI1.cells ((hg.ext hEx1).bare hfz0) (hr1.bare hfz0 hn)).mono ?_
  rintro en w' ⟨u, us, fz', rfl, hb, hmono, hold, hcells, hru, hfzv, hsz, hone, hown, hnfz⟩
  obtain ⟨hI2, hEx2⟩ := hI1.grown (Below.grownBy hb)
  have hex : Ext σ1 w' ⟨σ1.box, fz'⟩ w' := ⟨fun id L hL => ⟨L, hL, rfl, .inl rfl⟩, fun b c h => ⟨hmono b c h, rfl⟩⟩
  have hI3 : Inv B w0 ⟨σ1.box, fz'⟩ (bump H (args.flatMap idsA)) w' := by
    refine ⟨hI2.below, hI2.size, hI2.dom, fun id bx hb hl => ?_, hI2.apart, hcells, fun b c hc id bx L hb hl hL hown => ?_, hI2.low, fun b c hc hlt => ?_, fun b hb => ?_⟩
    · obtain ⟨L, hL, hok⟩ := hI2.boxes id bx hb hl
      obtain ⟨us, h1, h2, h3, h4⟩ := hok.reps
      exact ⟨L, hL, ⟨hok.tot, ⟨us, h1.ext hex, h2, h3, h4⟩, hok.nilp, hok.esz, hok.oks, hok.fzs⟩⟩
    · obtain ⟨L', hL', hok⟩ := hI1.boxes id bx hb hl
      rw [show σ1.box id = some L from hL] at hL'
      cases hL'
      exact hI1.floor b c (hold b c hc (hok.block_lt hown).2) id bx L hb hl hL hown
    · exact hI1.old b c (hold b c hc (Nat.lt_of_lt_of_le hlt hI1.size)) hlt
    · obtain ⟨k1, k2, k3, k4⟩ := hI2.kept b hb
      exact ⟨k1, k2, k3, fun c hc => k4 c (hold b c hc (hI1.kept b hb).1)⟩
  have hblk : ∀ g, u.ownBlock = some g → w.heap.size ≤ g := by
    intro g hg'
    rcases hown.2 with ⟨hv, _⟩ | ⟨g', cap, cur, tg, hv, hle, _⟩
    · rw [hv] at hg'; cases hg'
    · rw [hv] at hg'
      simp only [Value.ownBlock, Option.some.injEq] at hg'
      omega
  have hnr : noRefs xs = true := fzV_noRefs hfzv
  have hk : freeB (bump H (args.flatMap idsA)) H.length = true := by
    have := freeB_end (bump H (args.flatMap idsA))
    rwa [bump_length] at this
  obtain ⟨hI4, hEx4⟩ := hI3.put_new hk (newBox true false e sz xs) rfl ⟨u, xs.length, sz⟩ (by simp [newBox])
    (fun id bx' L' g h1 h2 h3 h4 h5 => by
      obtain ⟨L'', hL'', hok⟩ := hI1.boxes id bx' h1 h2
      rw [show σ1.box id = some L' from h3] at hL''
      cases hL''
      have := (hok.block_lt h4).2
      have := hblk g h5
      omega)
    (fun g c h => hnfz g c h) (fun g h hk => by have := (hI1.kept g hk).1; have := hblk g h; omega)
    ⟨rfl, ⟨us, hru.bare (fun b c h => ⟨h, rfl⟩) hnr, hsz, hone, by simpa [newBox] using ownsRow_base hown hI1.size⟩, by simp [newBox], rfl, fzV_oks hfzv, fun _ x hx => fzV_noRef (hfzv x hx)⟩
  have hval : ∃ a n c, u = .slice a n c ∧ n = xs.length ∧ n ≤ c := by
    rcases hown.2 with ⟨hv, hn⟩ | ⟨g, cap, cur, tg, hv, _, _, _, hnc, _⟩
    · exact ⟨none, 0, 0, hv, hn.symm, Nat.le_refl _⟩
    · exact ⟨_, _, cap, hv, rfl, hnc⟩
  obtain ⟨a, n, c, hv, hn', hnc⟩ := hval
  refine ⟨u, _, rfl, hI4, hEx1.trans (hEx2.trans (hex.trans hEx4)), .lsl (L := ⟨u, xs.length, sz⟩) (by simp [Sg.put]) (Nat.le_refl _) (fun _ => ⟨by omega, a, n, c, 0, hv, ?_, Nat.zero_le _, Nat.le_refl _, fun _ => rfl⟩) ⟨a, n, c, hv⟩ .nil⟩
  subst hn'
  rw [hv]
  cases a with
  | none => simp
  | some a => simp [Addr.add]

theorem body_ok (hE : EnvOK E) (hP : E.P = P) {call : CallF} (hcall : CallOK P E B w0 call) (hpure : CallsOK E call) {fn : Func} (hfn : E.func f = some fn) {n : Nat} {args : List V} {H' : Heap} {r : V} {vs : List Value}
    (hb : bodyD call n E f fn args H = some (r, H')) (hI : Inv B w0 σ H w) (hg : GlobOK E σ w) (hr : Reps σ w args vs) :
    Entered P f ∧ Calls P f vs.toArray w fun e w' => ∃ u σ', e = .returned u ∧ Inv B w0 σ' H' w' ∧ Ext σ w σ' w' ∧ Reps σ' w' [r] [u] := by
  unfold bodyD at hb
  cases hbody : fn.body with
  | none => simp [hbody] at hb
  | some c =>
    simp only [hbody] at hb
    obtain ⟨hf1, hf2⟩ := hE.func f fn hfn
    rw [hP] at hf1
    refine ⟨⟨fn, hf1, by simp [hbody], hf2⟩, calls_of_wp hf1 hbody ?_⟩
    have hcm := hE.calm f fn c hfn hbody
    have hslots : Reps σ w (args ++ List.replicate (fn.ntmps - args.length) vundef) (vs.toArray ++ Array.replicate (fn.ntmps - vs.toArray.size) undef).toList := by
      simp only [Array.toList_append, Array.toList_replicate, List.size_toArray]
      rw [← hr.length]
      exact hr.append (Reps.replicate _ (.no .nil))
    have hrel : Rel E B w0 σ ⟨args ++ List.replicate (fn.ntmps - args.length) vundef, H⟩ { tmps := vs.toArray ++ Array.replicate (fn.ntmps - vs.toArray.size) undef, defers := [] } w := ⟨hI, hg, hslots, rfl⟩
    have hfin : ∀ st, (resultsD E st.H st.s fn.results.toList).map (·, st.H) = some (r, H') → ∀ a' w' σ', Rel E B w0 σ' st a' w' → Ext σ w σ' w' →
        a'.defers = [] ∧ ∃ v, (results fn a'.tmps).run P w' = .ok v w' ∧ (fun e w' => ∃ u σ', e = Ending.returned u ∧ Inv B w0 σ' H' w' ∧ Ext σ w σ' w' ∧ Reps σ' w' [r] [u]) (.returned v) w' := by
      intro st hres a' w' σ' hr' he'
      cases hx : resultsD E st.H st.s fn.results.toList with
      | none => simp [hx] at hres
      | some x =>
        simp only [hx, Option.map_some, Option.some.injEq, Prod.mk.injEq] at hres
        obtain ⟨rfl, rfl⟩ := hres
        obtain ⟨u, hu, hur⟩ := results_ok (P := P) hE hP hr'.inv hr'.slots hx
        exact ⟨hr'.calm, u, hu, u, σ', rfl, hr'.inv, he', hur⟩
    split at hb
    · rename_i st hc
      exact code_ok hE hP hcall hpure (loop_ok hE hP hcall hpure n) c _ .normal st hcm hc _ σ _ w hrel (hfin st hb)
    · rename_i st hc
      exact code_ok hE hP hcall hpure (loop_ok hE hP hcall hpure n) c _ .ret st hcm hc _ σ _ w hrel (hfin st hb)
    · cases hb

/-- A body that runs on frozen arguments alone. -/
theorem body_pure (hE : EnvOK E) (hP : E.P = P) {call : CallF} (hcall : ∀ B w0, CallOK P E B w0 call) (hpure : CallsOK E call) {fn : Func} (hfn : E.func f = some fn) {n : Nat} {as : List V} {H' : Heap} {r0 r : V}
    (hb : bodyD call n E f fn as [] = some (r0, H')) (hfr : frzT H' r0 = some r) : PureFn P E f as r := by
  intro fz w vs hcells hg hr
  have hI : Inv w.heap.size (Start.of w fz) (bare fz) [] w := ⟨Below.refl _ w, Nat.le_refl _, fun id L hL => (by cases hL), fun id bx hb => by simp at hb, fun i j b1 b2 L1 L2 g h1 => by simp at h1, hcells,
    fun b c hc id bx L hb => by simp at hb, fun id bx hb => by simp at hb, fun b c hc _ => hc, fun b hb => hb.elim⟩
  obtain ⟨_, hc⟩ := body_ok hE hP (hcall w.heap.size (Start.of w fz)) hpure hfn hb hI hg hr
  refine hc.mono ?_
  rintro e w' ⟨u, σ', rfl, hI', hEx', hr'⟩
  obtain ⟨hI2, hEx2⟩ := hI'.freeze (idsT r0)
  have hr2 := frzT_reps hI' hr' hfr (idsT r0) (fun i hi => hi)
  have hn := frzT_noRef hI' hr' hfr
  refine ⟨u, (σ'.freeze H' (idsT r0)).fz, rfl, hI2.below, fun b c h => (hEx2.fz b c (hEx'.fz b c h).1).1, fun b c h hlt => hI2.old b c h hlt, hI2.cells, ?_, hn⟩
  exact hr2.bare (fun b c h => ⟨h, rfl⟩) (by simp [noRefs, hn])

theorem frzAll_length {H : Heap} : ∀ {xs ys : List V}, frzAll H xs = some ys → xs.length = ys.length := by
  intro xs
  induction xs with
  | nil => intro ys h; simp [frzAll] at h; subst h; rfl
  | cons x xs ih =>
    intro ys h
    simp only [frzAll] at h
    split at h
    · rename_i a b ha hb
      simp only [Option.some.injEq] at h
      subst h
      simp [ih hb]
    · cases h

theorem showP_sim {H H' : Heap} {x : V} (h : SimAt (refsV x) H H') : showP H' x = showP H x := by
  unfold showP
  split
  · rename_i id i off tot
    split
    · cases hb : boxAt H id tot with
      | none => rw [boxAt_none (h id (by simp [refsV, ref1])) hb]
      | some b =>
        obtain ⟨b', h1, h2⟩ := boxAt_low (h id (by simp [refsV, ref1])) hb
        obtain ⟨e1, e2, e3, e4, e5⟩ := low_eqs h2
        simp only [h1, e1, e4, e5]
    · rfl
  · exact frz_sim h

theorem showAll_sim {H H' : Heap} {xs : List V} (h : SimAt (xs.flatMap refsV) H H') : showAll H' xs = showAll H xs := by
  induction xs with
  | nil => rfl
  | cons x xs ih =>
    simp only [showAll]
    rw [showP_sim (fun i hi => h i (by simp [hi])), ih (fun i hi => h i (by rw [List.flatMap_cons]; exact List.mem_append_right _ hi))]

theorem callD_pure (n : Nat) : PureOK E (callD E n) := by
  intro f hp args H v H1 h
  cases n with
  | zero => cases h
  | succ n =>
    unfold callD at h
    cases henv : E.env f with
    | some F =>
      simp only [henv] at h
      by_cases hq : args.any isPtrV = true
      · rw [if_pos hq] at h
        have ho : E.own f = none := by simpa using (Bool.and_eq_true_iff.1 hp).2
        cases hf : showAll H args with
        | none => simp [hf, ho] at h
        | some as =>
          simp only [hf, ho] at h
          cases hF : F (retypeAll E.rows (E.par f) as) with
          | none => simp [hF] at h
          | some r =>
            simp only [hF] at h
            split at h
            · rename_i hfl
              simp only [Option.some.injEq, Prod.mk.injEq] at h
              refine ⟨h.2.symm, fun H' hs => ?_⟩
              unfold callD
              simp only [henv]
              rw [if_pos hq, showAll_sim hs, hf]
              simp only [ho, hF]
              rw [if_pos hfl, h.1]
            · cases h
      rw [if_neg hq] at h
      cases hf : frzAll H args with
      | none => simp [hf] at h
      | some as =>
        have ho : E.own f = none := by simpa using (Bool.and_eq_true_iff.1 hp).2
        simp only [hf, ho] at h
        cases hF : F (retypeAll E.rows (E.par f) as) with
        | none => simp [hF] at h
        | some r =>
          simp only [hF, Option.map_some, Option.some.injEq, Prod.mk.injEq] at h
          refine ⟨h.2.symm, fun H' hs => ?_⟩
          unfold callD
          simp only [henv]
          rw [if_neg hq, frzAll_sim hs, hf]
          simp only [ho, hF, Option.map_some, h.1]
    | none =>
      have hpf : E.pure f = true := by simpa [henv] using (Bool.and_eq_true_iff.1 hp).1
      simp only [henv, hpf, if_true] at h
      cases hfn : E.func f with
      | none => simp [hfn] at h
      | some fn =>
        simp only [hfn] at h
        cases hf : frzAll H args with
        | none => simp [hf] at h
        | some as =>
          simp only [hf] at h
          cases hbd : bodyD (callD E n) n E f fn as [] with
          | none => simp [hbd] at h
          | some rr =>
            obtain ⟨r0, H2⟩ := rr
            simp only [hbd] at h
            cases hft : frzT H2 r0 with
            | none => simp [hft] at h
            | some r =>
              simp only [hft, Option.map_some, Option.some.injEq, Prod.mk.injEq] at h
              refine ⟨h.2.symm, fun H' hs => ?_⟩
              unfold callD
              simp only [henv, hpf, if_true, hfn]
              rw [frzAll_sim hs, hf]
              simp only [hbd, hft, Option.map_some, h.1]

theorem bump_bump (H : Heap) (a b : List Nat) : bump (bump H a) b = bump H (a ++ b) := by
  induction a generalizing H with
  | nil => rfl
  | cons i a ih => simp only [bump, List.cons_append, ih]

theorem prep1_free {f : Fk} {H H1 : Heap} {x y : V} (h : prep1 f H x = some (y, H1)) (hn : refsF y = []) : ∃ ids, (∀ i ∈ ids, i ∈ ref1 x) ∧ H1 = bump H ids ∧ ∀ H', SimAt (ref1 x) H H' → prep1 f H' x = some (y, bump H' ids) := by
  cases f with
  | s e sz =>
    simp only [prep1] at h
    cases hf : frz0 H x with
    | none => simp [hf] at h
    | some w =>
      simp only [hf, Option.map_some, Option.some.injEq, Prod.mk.injEq] at h
      obtain ⟨rfl, rfl⟩ := h
      exact ⟨ids1 x, fun i hi => ids1_ref hi, rfl, fun H' hs => by simp only [prep1, frz0_sim hs, hf, Option.map_some]⟩
  | own e sz =>
    exfalso
    simp only [prep1, prepO] at h
    split at h
    · simp only [Option.some.injEq, Prod.mk.injEq] at h
      rw [← h.1] at hn
      simp [refsF] at hn
    · simp only [Option.some.injEq, Prod.mk.injEq] at h
      rw [← h.1] at hn
      simp [refsF] at hn
    · split at h
      · simp only [Option.some.injEq, Prod.mk.injEq] at h
        rw [← h.1] at hn
        simp [refsF] at hn
      · cases h
    · cases h
  | keep =>
    simp only [prep1, Option.some.injEq, Prod.mk.injEq] at h
    obtain ⟨rfl, rfl⟩ := h
    exact ⟨[], by simp, rfl, fun H' _ => rfl⟩

theorem prepL_free : ∀ {fl : List Fk} {H H1 : Heap} {xs ys : List V}, prepL fl H xs = some (ys, H1) → refsFs ys = [] → ∃ ids, (∀ i ∈ ids, i ∈ xs.flatMap ref1) ∧ H1 = bump H ids ∧ ∀ H', SimAt (xs.flatMap ref1) H H' → prepL fl H' xs = some (ys, bump H' ids) := by
  intro fl
  induction fl with
  | nil =>
    intro H H1 xs ys h hn
    cases xs with
    | nil =>
      simp only [prepL, Option.some.injEq, Prod.mk.injEq] at h
      obtain ⟨rfl, rfl⟩ := h
      exact ⟨[], by simp, rfl, fun H' _ => rfl⟩
    | cons => simp [prepL] at h
  | cons f fl ih =>
    intro H H1 xs ys h hn
    cases xs with
    | nil => simp [prepL] at h
    | cons x xs =>
      simp only [prepL] at h
      cases h1 : prep1 f H x with
      | none => simp [h1] at h
      | some r =>
        obtain ⟨y, Ha⟩ := r
        simp only [h1] at h
        cases h2 : prepL fl Ha xs with
        | none => simp [h2] at h
        | some q =>
          obtain ⟨zs, Hb⟩ := q
          simp only [h2, Option.some.injEq, Prod.mk.injEq] at h
          obtain ⟨rfl, rfl⟩ := h
          simp only [refsFs, List.append_eq_nil_iff] at hn
          obtain ⟨i1, a1, rfl, a3⟩ := prep1_free h1 hn.1
          obtain ⟨i2, b1, rfl, b3⟩ := ih h2 hn.2
          refine ⟨i1 ++ i2, fun i hi => ?_, bump_bump H i1 i2, fun H' hs => ?_⟩
          · rw [List.flatMap_cons]
            rcases List.mem_append.1 hi with hi | hi
            · exact List.mem_append_left _ (a1 i hi)
            · exact List.mem_append_right _ (b1 i hi)
          · have hs1 : SimAt (ref1 x) H H' := fun i hi => hs i (by rw [List.flatMap_cons]; exact List.mem_append_left _ hi)
            have hs2 : SimAt (xs.flatMap ref1) (bump H i1) (bump H' i1) := (sim_bump _ i1 H).symm.trans (SimAt.trans (fun i hi => hs i (by rw [List.flatMap_cons]; exact List.mem_append_right _ hi)) (sim_bump _ i1 H'))
            simp only [prepL, a3 H' hs1, b3 _ hs2, bump_bump]

theorem prepV_free {fl : List Fk} {H H1 : Heap} {x y : V} (h : prepV fl H x = some (y, H1)) (hn : refsF y = []) : ∃ ids, (∀ i ∈ ids, i ∈ refsV x) ∧ H1 = bump H ids ∧ ∀ H', SimAt (refsV x) H H' → prepV fl H' x = some (y, bump H' ids) := by
  unfold prepV at h
  split at h
  · rename_i cs
    cases h1 : prepL fl H cs with
    | none => simp [h1] at h
    | some r =>
      obtain ⟨ys, Ha⟩ := r
      simp only [h1, Option.map_some, Option.some.injEq, Prod.mk.injEq] at h
      obtain ⟨rfl, rfl⟩ := h
      obtain ⟨ids, a1, a2, a3⟩ := prepL_free h1 (by simpa [refsF] using hn)
      exact ⟨ids, a1, a2, fun H' hs => by simp only [prepV, a3 H' hs, Option.map_some]⟩
  · rename_i hne
    have hr : refsV x = ref1 x := by
      unfold refsV
      split
      · rename_i cs; exact absurd rfl (hne cs)
      · rfl
    split at h
    · rename_i f
      obtain ⟨ids, a1, a2, a3⟩ := prep1_free h hn
      refine ⟨ids, by rw [hr]; exact a1, a2, fun H' hs => ?_⟩
      unfold prepV
      split
      · rename_i cs; exact absurd rfl (hne cs)
      · exact a3 H' (by rw [hr] at hs; exact hs)
    · cases h

theorem prepA_free : ∀ {fa : List (List Fk)} {H H1 : Heap} {xs ys : List V}, prepA fa H xs = some (ys, H1) → refsFs ys = [] → ∃ ids, (∀ i ∈ ids, i ∈ xs.flatMap refsV) ∧ H1 = bump H ids ∧ ∀ H', SimAt (xs.flatMap refsV) H H' → prepA fa H' xs = some (ys, bump H' ids) := by
  intro fl
  induction fl with
  | nil =>
    intro H H1 xs ys h hn
    cases xs with
    | nil =>
      simp only [prepA, Option.some.injEq, Prod.mk.injEq] at h
      obtain ⟨rfl, rfl⟩ := h
      exact ⟨[], by simp, rfl, fun H' _ => rfl⟩
    | cons => simp [prepA] at h
  | cons f fl ih =>
    intro H H1 xs ys h hn
    cases xs with
    | nil => simp [prepA] at h
    | cons x xs =>
      simp only [prepA] at h
      cases h1 : prepV f H x with
      | none => simp [h1] at h
      | some r =>
        obtain ⟨y, Ha⟩ := r
        simp only [h1] at h
        cases h2 : prepA fl Ha xs with
        | none => simp [h2] at h
        | some q =>
          obtain ⟨zs, Hb⟩ := q
          simp only [h2, Option.some.injEq, Prod.mk.injEq] at h
          obtain ⟨rfl, rfl⟩ := h
          simp only [refsFs, List.append_eq_nil_iff] at hn
          obtain ⟨i1, a1, rfl, a3⟩ := prepV_free h1 hn.1
          obtain ⟨i2, b1, rfl, b3⟩ := ih h2 hn.2
          refine ⟨i1 ++ i2, fun i hi => ?_, bump_bump H i1 i2, fun H' hs => ?_⟩
          · rw [List.flatMap_cons]
            rcases List.mem_append.1 hi with hi | hi
            · exact List.mem_append_left _ (a1 i hi)
            · exact List.mem_append_right _ (b1 i hi)
          · have hs1 : SimAt (refsV x) H H' := fun i hi => hs i (by rw [List.flatMap_cons]; exact List.mem_append_left _ hi)
            have hs2 : SimAt (xs.flatMap refsV) (bump H i1) (bump H' i1) := (sim_bump _ i1 H).symm.trans (SimAt.trans (fun i hi => hs i (by rw [List.flatMap_cons]; exact List.mem_append_right _ hi)) (sim_bump _ i1 H'))
            simp only [prepA, a3 H' hs1, b3 _ hs2, bump_bump]

theorem packH_none {n : Nat} {H H2 : Heap} {todo ids : List Nat} (h : packH n [] H todo [] = some (H2, ids)) : todo = [] ∧ H2 = H ∧ ids = [] := by
  cases n with
  | zero => cases h
  | succ n =>
    cases todo with
    | nil =>
      simp only [packH, Option.some.injEq, Prod.mk.injEq] at h
      exact ⟨rfl, h.1.symm, h.2.symm⟩
    | cons i todo =>
      exfalso
      unfold packH at h
      simp only [List.contains_nil, Bool.false_eq_true, if_false] at h
      split at h <;> first | (cases h; done) | simp_all

theorem callH_free {hs : HSpec} (hfb : hs.fb = []) {args : List V} {H H1 : Heap} {v : V} (h : callH hs args H = some (v, H1)) :
    ∃ ids nbs, (∀ i ∈ ids, i ∈ args.flatMap refsV) ∧ H1 = bump H ids ++ nbs ∧ ∀ H', H'.length = H.length → SimAt (args.flatMap refsV) H H' → callH hs args H' = some (v, bump H' ids ++ nbs) := by
  unfold callH at h
  unfold pack at h
  rw [hfb] at h
  cases hp : prepA hs.fa H args with
  | none => simp [hp] at h
  | some r =>
    obtain ⟨as, Ha⟩ := r
    simp only [hp] at h
    cases hk : packH 1000 [] Ha (List.range 0 ++ refsFs as) [] with
    | none => rw [hk] at h; cases h
    | some q =>
      obtain ⟨H2, ids0⟩ := q
      obtain ⟨hr, rfl, rfl⟩ := packH_none hk
      simp only [List.range_zero, List.nil_append] at hr
      obtain ⟨ids, a1, rfl, a3⟩ := prepA_free hp hr
      simp only [hk] at h
      cases hrun : hs.run (renFs (([] : List Nat).idxOf ·) as) (subH (bump H ids) []) with
      | none => rw [hrun] at h; cases h
      | some rr =>
        obtain ⟨r, H3⟩ := rr
        simp only [hrun, List.length_nil, Nat.zero_le, if_true, Option.some.injEq, Prod.mk.injEq, bump_length] at h
        obtain ⟨rfl, rfl⟩ := h
        refine ⟨ids, H3.map (renBox (backN [] H.length)), a1, by simp only [putBack, putB, bump_length], fun H' hl hs' => ?_⟩
        unfold callH pack
        rw [hfb, a3 H' hs']
        simp only [List.range_zero, List.nil_append, hr, packH]
        have hsub : subH (bump H' ids) [] = subH (bump H ids) [] := rfl
        simp only [hsub, hrun, List.length_nil, Nat.zero_le, if_true, bump_length, hl, putBack, putB]

theorem callD_free (n : Nat) : FreeOK E (callD E n) := by
  intro f hf args H v H1 h
  cases n with
  | zero => cases h
  | succ n =>
    have hf0 := hf
    unfold freeF at hf
    simp only [Bool.and_eq_true, Option.isNone_iff_eq_none, Bool.not_eq_true'] at hf
    obtain ⟨⟨h1, h2⟩, h3⟩ := hf
    cases hh : E.hm f [] with
    | none => rw [hh] at h3; cases h3
    | some hs =>
      rw [hh] at h3
      have hfb : hs.fb = [] := by simpa using h3
      have he : ∀ H, callD E (n + 1) f args H = callH hs args H := fun H => by
        unfold callD
        simp only [h1, h2, Bool.false_eq_true, if_false, hf0, if_true, hh]
      rw [he] at h
      obtain ⟨ids, nbs, a1, a2, a3⟩ := callH_free hfb h
      exact ⟨ids, nbs, a1, a2, fun H' hl hs' => by rw [he]; exact a3 H' hl hs'⟩

theorem callD_calls (n : Nat) : CallsOK E (callD E n) := ⟨callD_pure n, callD_free n⟩

def allC (w : World) (b c : Nat) : Prop := ∃ u, w.cell? ⟨b, c, none⟩ = some u

theorem mask_reps {σ σ' : Sg} {w w' : World} {cs : List V} {ws : List Value} (h : Reps σ w cs ws) : Reps σ' w' (cs.map maskC) ws := by
  induction cs generalizing ws with
  | nil => cases h.nil_left; exact .nil
  | cons c cs ih =>
    obtain ⟨v, vs, rfl, h1, h2⟩ := h.cons_left
    simp only [List.map_cons]
    refine Reps.cons_iff.2 ⟨?_, ih h2⟩
    cases h1 with
    | lit hl _ => exact .lit hl .nil
    | _ => exact .und _ .nil

theorem mask_noRef (cs : List V) : noRefs (cs.map maskC) = true := by
  induction cs with
  | nil => rfl
  | cons c cs ih => cases c <;> simp [maskC, noRefs, noRef, ih]

theorem showP_reps {B : Nat} {w0 : Start} {σ : Sg} {H : Heap} {w : World} (h : Inv B w0 σ H w) {x y : V} {v : Value} (hr : Reps σ w [x] [v]) (hs : showP H x = some y) : Reps (bare (allC w)) w [y] [v] ∧ noRef y = true := by
  unfold showP at hs
  split at hs
  · rename_i id i off tot
    split at hs
    · rename_i hz
      obtain ⟨rfl, rfl⟩ := hz
      split at hs
      · rename_i b hb
        obtain ⟨b1, b2, b3⟩ := boxAt_some hb
        split at hs
        · rename_i cs hrow hxs
          simp only [Option.some.injEq] at hs
          subst hs
          obtain ⟨L, us, m⟩ := h.meet b1 b2
          cases hr with
          | ptr g k1 k2 k3 k4 k5 =>
            rename_i L'
            have hL : L' = L := by
              have := m.box
              rw [k1] at this
              cases this
              rfl
            subst hL
            obtain ⟨n, c, hv⟩ := k3 (m.tot.trans b3)
            have hrep := m.reps
            rw [hxs] at hrep
            have hus : ∃ ws : List Value, us = [.agg ws.toArray] ∧ Reps σ w cs ws ∧ ∀ u ∈ ws, u.oneCell' = true := by
              cases hrep with
              | agg q1 q2 q3 => cases q3; exact ⟨_, rfl, q1, q2⟩
            obtain ⟨ws, hus, hcs, hone⟩ := hus
            refine ⟨?_, by simp [noRef, noRefs, mask_noRef]⟩
            have key : Reps (bare (allC w)) w [.ept b.esz [.agg (cs.map maskC)] 0 0] [.pointer (some ⟨g, 0 + 0 * b.esz + 0, none⟩)] := by
              refine .ept (us := us) g 0 b.esz 0 0 ?_ ?_ (fun u hu => by rw [m.esz]; exact m.sizes u hu) m.ones ?_ .nil
              · rw [hus]; exact .agg (mask_reps hcs) hone .nil
              · intro x hx
                simp only [List.mem_singleton] at hx
                subst hx
                simp [fzV, okV, noRef, mask_noRef]
              · intro j u hu
                have := m.cell (g := g) (by rw [hv]; rfl) j u hu
                rw [Nat.zero_add]
                exact ⟨⟨u, this⟩, this⟩
            rw [k4]
            simpa using key
        · cases hs
      · cases hs
    · cases hs
  · have hn := frz_noRef h hr hs
    refine ⟨?_, hn⟩
    obtain ⟨hI1, hEx1⟩ := h.freeze (idsA x)
    have := frz_reps h hr hs (idsA x) (fun i hi => hi)
    exact this.bare (fun b c hh => ⟨hI1.cells b c hh, rfl⟩) (by simp [noRefs, hn])

theorem showAll_reps {B : Nat} {w0 : Start} {σ : Sg} {H : Heap} {w : World} (h : Inv B w0 σ H w) : ∀ {xs ys : List V} {vs : List Value}, Reps σ w xs vs → showAll H xs = some ys → Reps (bare (allC w)) w ys vs ∧ noRefs ys = true := by
  intro xs
  induction xs with
  | nil =>
    intro ys vs hr hs
    cases hr.nil_left
    simp only [showAll, Option.some.injEq] at hs
    subst hs
    exact ⟨.nil, rfl⟩
  | cons x xs ih =>
    intro ys vs hr hs
    obtain ⟨v, vs', rfl, h1, h2⟩ := hr.cons_left
    simp only [showAll] at hs
    split at hs
    · rename_i y ys' e1 e2
      simp only [Option.some.injEq] at hs
      subst hs
      obtain ⟨r1, n1⟩ := showP_reps h h1 e1
      obtain ⟨r2, n2⟩ := ih h2 e2
      exact ⟨Reps.cons_iff.2 ⟨r1, r2⟩, by simp [noRefs, n1, n2]⟩
    · cases hs

theorem lits_reps {σ σ' : Sg} {w w' : World} {cs : List V} {ws : List Value} (h : Reps σ w cs ws) (hl : cs.all isLitV = true) : Reps σ' w' cs ws := by
  induction cs generalizing ws with
  | nil => cases h.nil_left; exact .nil
  | cons c cs ih =>
    obtain ⟨v, vs, rfl, h1, h2⟩ := h.cons_left
    simp only [List.all_cons, Bool.and_eq_true] at hl
    refine Reps.cons_iff.2 ⟨?_, ih h2 hl.2⟩
    cases h1 with
    | lit hl' _ => exact .lit hl' .nil
    | _ => simp [isLitV] at hl

theorem flat1_reps {σ σ' : Sg} {w w' : World} {x : V} {u : Value} (h : Reps σ w [x] [u]) (hl : flat1 x = true) : Reps σ' w' [x] [u] := by
  cases h with
  | lit hl' _ => exact .lit hl' .nil
  | agg h1 h2 _ => exact .agg (lits_reps h1 (by simpa [flat1] using hl)) h2 .nil
  | _ => simp [flat1] at hl

theorem flats_reps {σ σ' : Sg} {w w' : World} {cs : List V} {ws : List Value} (h : Reps σ w cs ws) (hl : cs.all flat1 = true) : Reps σ' w' cs ws := by
  induction cs generalizing ws with
  | nil => cases h.nil_left; exact .nil
  | cons c cs ih =>
    obtain ⟨v, vs, rfl, h1, h2⟩ := h.cons_left
    simp only [List.all_cons, Bool.and_eq_true] at hl
    exact Reps.cons_iff.2 ⟨flat1_reps h1 hl.1, ih h2 hl.2⟩

theorem flat_reps {σ σ' : Sg} {w w' : World} {x : V} {u : Value} (h : Reps σ w [x] [u]) (hl : flatV x = true) : Reps σ' w' [x] [u] := by
  cases h with
  | lit hl' _ => exact .lit hl' .nil
  | agg h1 h2 _ => exact .agg (lits_reps h1 (by simpa [flatV, flat1] using hl)) h2 .nil
  | tup h1 _ => exact .tup (flats_reps h1 (by simpa [flatV] using hl)) .nil
  | _ => simp [flatV, flat1] at hl

/-- A call that looks at variables of its caller, seen from its caller. -/
theorem pure_callsQ {P : Program} {E : Env} {B : Nat} {w0 : Start} {σ : Sg} {H : Heap} {w : World} {f : FuncId} {args as : List V} {r : V} {vs : List Value} (ts : List TypeId) (hp : noRefs (retypeAll E.rows ts as) = true → PureFn P E f (retypeAll E.rows ts as) r) (hf : showAll H args = some as) (hfl : flatV r = true) (hI : Inv B w0 σ H w) (hg : GlobOK E σ w) (hr : Reps σ w args vs) :
    Calls P f vs.toArray w fun e w' => ∃ u σ', e = .returned u ∧ Inv B w0 σ' (bump H (args.flatMap idsA)) w' ∧ Ext σ w σ' w' ∧ Reps σ' w' [r] [u] := by
  obtain ⟨hI1, hEx1⟩ := hI.freeze (args.flatMap idsA)
  obtain ⟨r1, n1⟩ := showAll_reps hI hr hf
  have hr1 := retypeAll_reps E.rows ts r1
  refine (hp (by rw [retypeAll_noRef]; exact n1) (allC w) w vs (fun b c h => h) (hg.bare (fun b c h => ⟨hI.cells b c h, rfl⟩)) hr1).mono ?_
  rintro e w' ⟨u, fz', rfl, hb, hmono, hold, hcells, hru, hnr⟩
  obtain ⟨hI2, hEx2⟩ := hI1.grown (Below.grownBy hb)
  exact ⟨u, _, rfl, hI2, hEx1.trans hEx2, flat_reps hru hfl⟩

/-- **Calls that the evaluator answers.** -/
theorem callD_ok (hE : EnvOK E) (hP : E.P = P) (hF : EnvFns P E) : ∀ (n : Nat) (B : Nat) (w0 : Start), CallOK P E B w0 (callD E n) := by
  intro n
  induction n with
  | zero => intro B w0 f args H x H' σ w vs h; cases h
  | succ n ih =>
    intro B w0 f args H x H' σ w vs h hI hg hr
    unfold callD at h
    cases henv : E.env f with
    | some F =>
      simp only [henv] at h
      by_cases hq : args.any isPtrV = true
      · rw [if_pos hq] at h
        cases ho : E.own f with
        | some e => simp [ho] at h
        | none =>
          cases hf : showAll H args with
          | none => simp [ho, hf] at h
          | some as =>
            simp only [ho, hf] at h
            cases hFa : F (retypeAll E.rows (E.par f) as) with
            | none => simp [hFa] at h
            | some r =>
              simp only [hFa] at h
              split at h
              · rename_i hfl
                simp only [Option.some.injEq, Prod.mk.injEq] at h
                obtain ⟨rfl, rfl⟩ := h
                obtain ⟨h1, h2⟩ := hF.env f F henv
                refine ⟨h1, pure_callsQ (E.par f) (fun hn => ?_) hf hfl hI hg hr⟩
                have h3 := h2 _ r hn hFa
                rw [ho] at h3
                exact h3
              · cases h
      rw [if_neg hq] at h
      cases hf : frzAll H args with
      | none => simp [hf] at h
      | some as =>
        simp only [hf] at h
        cases hFa : F (retypeAll E.rows (E.par f) as) with
        | none =>
          cases ho : E.own f <;> simp [ho, hFa] at h
        | some r =>
          obtain ⟨h1, h2⟩ := hF.env f F henv
          have h3 := h2 _ r (by rw [retypeAll_noRef]; exact frzAll_noRef hI hr hf) hFa
          cases ho : E.own f with
          | none =>
            simp only [ho, hFa, Option.map_some, Option.some.injEq, Prod.mk.injEq] at h
            obtain ⟨rfl, rfl⟩ := h
            rw [ho] at h3
            exact ⟨h1, pure_calls (E.par f) h3 hf hI hg hr⟩
          | some e =>
            simp only [ho, hFa] at h
            rw [ho] at h3
            split at h
            · rename_i sz xs hr0
              simp only [Option.some.injEq, Prod.mk.injEq] at h hr0
              obtain ⟨rfl, rfl⟩ := h
              exact ⟨h1, own_calls (E.par f) (h3 sz xs hr0) hf hI hg hr⟩
            · cases h
    | none =>
      simp only [henv] at h
      split at h
      · cases hfn : E.func f with
        | none => simp [hfn] at h
        | some fn =>
          simp only [hfn] at h
          cases hf : frzAll H args with
          | none => simp [hf] at h
          | some as =>
            simp only [hf] at h
            cases hbd : bodyD (callD E n) n E f fn as [] with
            | none => simp [hbd] at h
            | some rr =>
              obtain ⟨r0, H2⟩ := rr
              simp only [hbd] at h
              cases hft : frzT H2 r0 with
              | none => simp [hft] at h
              | some r =>
                simp only [hft, Option.map_some, Option.some.injEq, Prod.mk.injEq] at h
                obtain ⟨rfl, rfl⟩ := h
                have hent : Entered P f := by
                  obtain ⟨hf1, hf2⟩ := hE.func f fn hfn
                  rw [hP] at hf1
                  refine ⟨fn, hf1, ?_, hf2⟩
                  unfold bodyD at hbd
                  cases hb : fn.body with
                  | none => simp [hb] at hbd
                  | some c => rfl
                exact ⟨hent, pure_calls [] (by simpa [retypeAll] using body_pure hE hP ih (callD_calls n) hfn hbd hft) hf hI hg hr⟩
      · cases hhm : E.hm f (if freeF E f then [] else fnKey args) with
        | some hs =>
          simp only [hhm] at h
          obtain ⟨h1, h2⟩ := hF.hm f _ hs hhm
          exact ⟨h1, callH_ok h2 h hI hg hr⟩
        | none =>
          simp only [hhm] at h
          cases hfn : E.func f with
          | none => simp [hfn] at h
          | some fn =>
            simp only [hfn] at h
            exact body_ok hE hP (ih B w0) (callD_calls n) hfn h hI hg hr

/-- **What a pure call answers.** -/
theorem pureFn_of {n : Nat} {as : List V} {r : V} {H' : Heap} (hE : EnvOK E) (hP : E.P = P) (hF : EnvFns P E) (hp : E.pure f = true) (hne : E.env f = none) (hn : frzAll [] as = some as) (h : callD E (n + 1) f as [] = some (r, H')) : PureFn P E f as r := by
  unfold callD at h
  simp only [hne, hp, if_true] at h
  cases hfn : E.func f with
  | none => simp [hfn] at h
  | some fn =>
    simp only [hfn, hn] at h
    cases hbd : bodyD (callD E n) n E f fn as [] with
    | none => simp [hbd] at h
    | some rr =>
      obtain ⟨r0, H2⟩ := rr
      simp only [hbd] at h
      cases hft : frzT H2 r0 with
      | none => simp [hft] at h
      | some r' =>
        simp only [hft, Option.map_some, Option.some.injEq, Prod.mk.injEq] at h
        obtain ⟨rfl, _⟩ := h
        exact body_pure hE hP (callD_ok hE hP hF n) (callD_calls n) hfn hbd hft

end

end Go.Proofs.YtkepnndakhpgoaaGreatDoor.Le

/-
  The evaluator over symbolic values: typed lists, decision trees. Definitions.
-/
namespace Go.Proofs.YtkepnndakhpgoaaGreatDoor.Le
set_option linter.unusedVariables false

inductive SV (Ty : Nat → Type) where
  | lit (v : Value)                       -- a constant
  | si (k : IntKind) (a : Int)
  | sb (b : Bool)
  | ss (s : ByteArray)
  | agg (cs : List (SV Ty))
  | tup (vs : List (SV Ty))
  | nil (e : Nat)                         -- a slice that is surely nil
  | sl (t : Nat) (xs : List (Ty t))
  | slt (t : Nat) (xs : List (Ty t))      -- its capacity is its length
  | all (id n : Nat)                      -- a slice of all n elements of a box
  | lsl (id off len tot : Nat)
  | ptr (id i off tot : Nat)
  | ept (t : Nat) (xs : List (Ty t)) (i off : Nat)
  | fn (f : FuncId) (first caps : List (SV Ty))
  | raw (v : V)
  | no
  | und

instance (Ty : Nat → Type) : Inhabited (SV Ty) := ⟨.und⟩

/-- The types of a program as types of Lean. -/
structure Univ where
  Ty : Nat → Type
  esz : Nat → Nat
  enc : (t : Nat) → Ty t → V
  encS : (t : Nat) → Ty t → SV Ty
  decS : (t : Nat) → SV Ty → Option (Ty t)
  keys : List Nat

section
variable (U : Univ)

mutual
def toV : SV U.Ty → V
  | .lit v => .lit v
  | .si k a => .lit (.int k a)
  | .sb b => .lit (.bool b)
  | .ss s => .lit (.string s)
  | .agg cs => .agg (toVs cs)
  | .tup cs => .tup (toVs cs)
  | .nil e => .sl true e []
  | .sl t xs => .sl false (U.esz t) (xs.map (U.enc t))
  | .slt t xs => .slt false (U.esz t) (xs.map (U.enc t))
  | .all id n => .lsl id 0 n n
  | .lsl id off len tot => .lsl id off len tot
  | .ptr id i off tot => .ptr id i off tot
  | .ept t xs i off => .ept (U.esz t) (xs.map (U.enc t)) i off
  | .fn f a b => .fn f (toVs a) (toVs b)
  | .raw v => v
  | .no => .no
  | .und => .und
def toVs : List (SV U.Ty) → List V
  | [] => []
  | x :: xs => toV x :: toVs xs
end

inductive SBox (Ty : Nat → Type) where
  | var (elem : TypeId) (esz : Nat) (x : SV Ty)
  | row (t : Nat) (xs : List (Ty t)) (fl : Option Nat)
  | dead
  | fvar (elem : TypeId) (esz : Nat) (x : SV Ty)   -- a variable that is frozen

def SBox.floor {Ty : Nat → Type} (fl : Option Nat) : Nat := fl.getD 0

def toBox : SBox U.Ty → Box
  | .var e n x => newBox false false e n [toV U x]
  | .row t xs fl => { live := true, row := true, nilp := false, elem := t, esz := U.esz t, xs := xs.map (U.enc t), floor := fl.getD 0 }
  | .dead => deadBox
  | .fvar e n x => { newBox false false e n [toV U x] with floor := 1 }

abbrev SHeap := List (SBox U.Ty)
def toH (H : SHeap U) : Heap := H.map (toBox U)

structure SSt where
  s : List (SV U.Ty)
  H : SHeap U

def toSt (st : SSt U) : St := ⟨toVs U st.s, toH U st.H⟩

/-! ### decision trees -/

inductive Tr (L : Type) where
  | leaf (l : L)
  | br (c : Bool) (a b : Tr L)
  | bind (t : Nat) (o : Option (U.Ty t)) (k : U.Ty t → Tr L)
  | chk (c : Bool) (a : Tr L)
  | fail

variable {U}
def Tr.andThen {L M : Type} : Tr U L → (L → Tr U M) → Tr U M
  | .leaf l, f => f l
  | .br c a b, f => .br c (a.andThen f) (b.andThen f)
  | .bind t o k, f => .bind t o fun x => (k x).andThen f
  | .chk c a, f => .chk c (a.andThen f)
  | .fail, _ => .fail

def Tr.map {L M : Type} (g : L → M) : Tr U L → Tr U M
  | .leaf l => .leaf (g l)
  | .br c a b => .br c (a.map g) (b.map g)
  | .bind t o k => .bind t o fun x => (k x).map g
  | .chk c a => .chk c (a.map g)
  | .fail => .fail

/-- What a tree comes to, if its leaves come to something. -/
def Tr.den {L R : Type} (J : L → Option R) : Tr U L → Option R
  | .leaf l => J l
  | .br c a b => cond c (a.den J) (b.den J)
  | .bind t o k => o.bind fun x => (k x).den J
  | .chk c a => cond c (a.den J) none
  | .fail => none

def Tr.Runs {L : Type} : Tr U L → L → Prop
  | .leaf l, x => l = x
  | .br c a b, x => (c = true ∧ a.Runs x) ∨ (c = false ∧ b.Runs x)
  | .bind t o k, x => ∃ a, o = some a ∧ (k a).Runs x
  | .chk c a, x => c = true ∧ a.Runs x
  | .fail, _ => False

def Tr.opt {L : Type} : Option L → Tr U L
  | some l => .leaf l
  | none => .fail
def Tr.when {L : Type} (p : Prop) [Decidable p] (a : Tr U L) : Tr U L := if p then a else .fail

variable (U)
/-! ### values -/

def ofV1 : V → SV U.Ty
  | .lit v => .lit v
  | .sl true e [] => .nil e
  | .no => .no
  | .und => .und
  | v => .raw v
def ofV : V → SV U.Ty
  | .agg cs => .agg (cs.map (ofV1 U))
  | v => ofV1 U v

variable {U}
def cellsS : SV U.Ty → List (SV U.Ty)
  | .agg cs => cs
  | v => [v]
def okS : SV U.Ty → Bool
  | .und | .no | .tup _ => false
  | .raw (.agg _) => false
  | .raw v => okV v
  | _ => true

/-- What is a scalar, as the evaluator over values has it. -/
def scal : SV U.Ty → Option Value
  | .lit v => some v
  | .si k a => some (.int k a)
  | .sb b => some (.bool b)
  | .ss s => some (.string s)
  | _ => none

def asInt : SV U.Ty → Option (IntKind × Int)
  | .lit (.int k a) => some (k, a)
  | .si k a => some (k, a)
  | _ => none
def asStr : SV U.Ty → Option ByteArray
  | .lit (.string s) => some s
  | .ss s => some s
  | _ => none
def asBool : SV U.Ty → Option Bool
  | .lit (.bool b) => some b
  | .sb b => some b
  | _ => none

def evS (E : Env) (s : List (SV U.Ty)) : Operand → SV U.Ty
  | .tmp t => s.getD t .und
  | .const v => ofV U (ofConst v)
  | .func f => .fn f [] []
  | .global g => match E.glob g with | some r => .raw (.ept r.length [.agg r] 0 0) | none => .und

def setS (s : List (SV U.Ty)) (d : Option Tmp) (v : SV U.Ty) : List (SV U.Ty) := match d with | some t => s.set t v | none => s

def placeS (H : SHeap U) (k : Nat) (b : SBox U.Ty) : SHeap U := if k < H.length then H.set k b else H ++ [b]

/-- A whole row, looked at by a slice of n elements. -/
def rowAt {L : Type} (H : SHeap U) (id tot : Nat) (k : (t : Nat) → List (U.Ty t) → Option Nat → Tr U L) : Tr U L :=
  match H[id]? with
  | some (.row t xs fl) => .chk (xs.length == tot) (k t xs fl)
  | _ => .fail

/-! ### freezing -/

def frz0S (H : SHeap U) : SV U.Ty → Tr U (SV U.Ty)
  | .lit v => .leaf (.lit v)
  | .si k a => .leaf (.si k a)
  | .sb b => .leaf (.sb b)
  | .ss s => .leaf (.ss s)
  | .nil e => .leaf (.nil e)
  | .sl t xs => .leaf (.sl t xs)
  | .slt t xs => .leaf (.sl t xs)
  | .all id n => rowAt H id n fun t xs _ => .leaf (.sl t xs)
  | .lsl id off len tot => rowAt H id tot fun t xs _ => .chk (decide (off + len ≤ tot)) (.leaf (.sl t ((xs.drop off).take len)))
  | .fn f [] [] => .leaf (.fn f [] [])
  | _ => .fail

def frzLS (H : SHeap U) : List (SV U.Ty) → Tr U (List (SV U.Ty))
  | [] => .leaf []
  | v :: vs => (frz0S H v).andThen fun w => (frzLS H vs).andThen fun ws => .leaf (w :: ws)

def frzS (H : SHeap U) : SV U.Ty → Tr U (SV U.Ty)
  | .agg cs => (frzLS H cs).andThen fun ws => .leaf (.agg ws)
  | v => frz0S H v

def frzAllS (H : SHeap U) : List (SV U.Ty) → Tr U (List (SV U.Ty))
  | [] => .leaf []
  | v :: vs => (frzS H v).andThen fun w => (frzAllS H vs).andThen fun ws => .leaf (w :: ws)

def ids1S : SV U.Ty → List Nat
  | .lsl id _ _ _ => [id]
  | .all id _ => [id]
  | .raw v => ids1 v
  | _ => []
def idsAS : SV U.Ty → List Nat
  | .agg cs => cs.flatMap ids1S
  | .raw v => idsA v
  | v => ids1S v

def bumpBox : SBox U.Ty → SBox U.Ty
  | .row t xs _ => .row t xs (some xs.length)
  | b => b
def bumpS (H : SHeap U) : List Nat → SHeap U
  | [] => H
  | i :: is => bumpS (H.modify i bumpBox) is

/-! ### reading and writing -/

def partS (cs : List (SV U.Ty)) (off n : Nat) (isAgg : Bool) : Option (SV U.Ty) :=
  if isAgg then (if off + n ≤ cs.length then some (.agg ((cs.drop off).take n)) else none) else cs[off]?

def loadT (E : Env) (H : SHeap U) (t : TypeId) (a : SV U.Ty) : Tr U (SV U.Ty) :=
  match E.ti t with
  | none => .fail
  | some i =>
    match a with
    | .ept et xs j off => .bind et xs[j]? fun x => .opt (partS (cellsS (U.encS et x)) off i.size i.isAgg)
    | .ptr id j off tot => match H[id]? with
      | some (.var _ _ x) => .when (j = 0 ∧ tot = 1 ∧ okS x = true) (.opt (partS (cellsS x) off i.size i.isAgg))
      | some (.row et xs _) => .chk (xs.length == tot) (.bind et xs[j]? fun x => .opt (partS (cellsS (U.encS et x)) off i.size i.isAgg))
      | _ => .fail
    | .raw (.ept _ [.agg cs] 0 off) => .opt ((partOf cs off i.size i.isAgg).map (ofV U))
    | _ => .fail

def spliceS (x : SV U.Ty) (off : Nat) (cs : List (SV U.Ty)) : Option (SV U.Ty) :=
  match x with
  | .agg ds => if off + cs.length ≤ ds.length then some (.agg (ds.take off ++ cs ++ ds.drop (off + cs.length))) else none
  | .raw _ => none
  | _ => match off, cs with | 0, [c] => some c | _, _ => none

def storeT (E : Env) (H : SHeap U) (t : TypeId) (a v : SV U.Ty) : Tr U (SHeap U) :=
  match E.ti t with
  | none => .fail
  | some i =>
    match a with
    | .ptr id j off tot => match H[id]? with
      | some (.var e n x) => .when ((j = 0 ∧ tot = 1) ∧ (cellsS v).length = i.size ∧ okS v = true ∧ okS x = true)
          (match spliceS x off (cellsS v) with
           | some x' => .when (okS x' = true) (.leaf (H.set id (.var e n x')))
           | none => .fail)
      | some (.row et xs fl) => .when ((cellsS v).length = i.size ∧ okS v = true ∧ (idsAS v).contains id = false)
          (.chk (xs.length == tot && decide (fl.getD 0 ≤ j)) (.bind et xs[j]? fun x => (frzS H v).andThen fun v' =>
            match spliceS (U.encS et x) off (cellsS v') with
            | some x' => match U.decS et x' with
              | some y => .when (okS v' = true ∧ okS x' = true) (.leaf ((bumpS H (idsAS v)).set id (.row et (xs.set j y) fl)))
              | none => .fail
            | none => .fail))
      | _ => .fail
    | _ => .fail

end

end Go.Proofs.YtkepnndakhpgoaaGreatDoor.Le

/-
  The evaluator over symbolic values: operations, regions, code. Definitions.
-/
namespace Go.Proofs.YtkepnndakhpgoaaGreatDoor.Le
set_option linter.unusedVariables false

section
variable {U : Univ}

/-! ### scalars -/

def intT (op : BinOp) (k : IntKind) (a b : Int) (lit : Bool) : Tr U (SV U.Ty) :=
  match op with
  | .add => .leaf (.si k (k.wrap (a + b)))
  | .sub => .leaf (.si k (k.wrap (a - b)))
  | .mul => .leaf (.si k (k.wrap (a * b)))
  | .quo => if lit then (if b = 0 then .fail else .leaf (.si k (k.wrap (a.tdiv b)))) else .chk (b != 0) (.leaf (.si k (k.wrap (a.tdiv b))))
  | .rem => if lit then (if b = 0 then .fail else .leaf (.si k (a.tmod b))) else .chk (b != 0) (.leaf (.si k (a.tmod b)))
  | .and | .or | .xor | .andNot => .leaf (.si k (bits op k a b))
  | .eql => .leaf (.sb (a == b))
  | .neq => .leaf (.sb (a != b))
  | .lss => .leaf (.sb (decide (a < b)))
  | .leq => .leaf (.sb (decide (a ≤ b)))
  | .gtr => .leaf (.sb (decide (a > b)))
  | .geq => .leaf (.sb (decide (a ≥ b)))
  | _ => .fail

def shiftV (op : BinOp) (k : IntKind) (a b : Int) : Option Int :=
  match op with
  | .shl => some (k.wrap (a * 2 ^ min b.toNat k.bits))
  | .shr => some (a.fdiv (2 ^ min b.toNat k.bits))
  | _ => none

def shiftT (op : BinOp) (k : IntKind) (a b : Int) (lit : Bool) : Tr U (SV U.Ty) :=
  match shiftV op k a b with
  | none => .fail
  | some r => if lit then (if b < 0 then .fail else .leaf (.si k r)) else .chk (decide (0 ≤ b)) (.leaf (.si k r))

def strT (op : BinOp) (x y : ByteArray) : Tr U (SV U.Ty) :=
  match op with
  | .add => .chk (decide (x.size + y.size ≤ maxLen)) (.leaf (.ss (x ++ y)))
  | .eql => .leaf (.sb (x.toList == y.toList))
  | .neq => .leaf (.sb !(x.toList == y.toList))
  | .lss => .leaf (.sb (Op.bytesLess x.toList y.toList))
  | .leq => .leaf (.sb (Op.bytesLess x.toList y.toList || x.toList == y.toList))
  | .gtr => .leaf (.sb !(Op.bytesLess x.toList y.toList || x.toList == y.toList))
  | .geq => .leaf (.sb !(Op.bytesLess x.toList y.toList))
  | _ => .fail

/-- Whether two rows of cells of a flat type are equal, and whether that can be said. -/
def eqCellsS : List FK → List (SV U.Ty) → List (SV U.Ty) → Option Bool
  | [], [], [] => some true
  | .b :: ks, x :: xs, y :: ys => match asBool x, asBool y, eqCellsS ks xs ys with | some a, some b, some r => some (a == b && r) | _, _, _ => none
  | .i k :: ks, x :: xs, y :: ys => match asInt x, asInt y, eqCellsS ks xs ys with
    | some (k1, a), some (k2, b), some r => if k1 = k ∧ k2 = k then some (a == b && r) else none
    | _, _, _ => none
  | .s :: ks, x :: xs, y :: ys => match asStr x, asStr y, eqCellsS ks xs ys with | some a, some b, some r => some (a == b && r) | _, _, _ => none
  | _, _, _ => none

def isLit : SV U.Ty → Bool | .lit _ => true | _ => false

def binT (E : Env) (op : BinOp) (t : TypeId) (x y : SV U.Ty) : Tr U (SV U.Ty) :=
  match x, y with
  | .agg xs, .agg ys => match E.flat t with
    | some ks => match eqCellsS ks xs ys with
      | some b => (match op with | .eql => .leaf (.sb b) | .neq => .leaf (.sb !b) | _ => .fail)
      | none => .fail
    | none => .fail
  | x, y => match asInt x, asInt y with
    | some (k, a), some (j, b) => (match op with
      | .shl => shiftT .shl k a b (isLit y)
      | .shr => shiftT .shr k a b (isLit y)
      | op => if k = j then intT op k a b (isLit y) else .fail)
    | _, _ => match asStr x, asStr y with
      | some a, some b => strT op a b
      | _, _ => match asBool x, asBool y with
        | some a, some b => if E.isBool t then (match op with | .eql => .leaf (.sb (a == b)) | .neq => .leaf (.sb (!(a == b))) | _ => .fail) else .fail
        | _, _ => .fail

def unT (op : UnOp) (x : SV U.Ty) : Tr U (SV U.Ty) :=
  match op, asInt x, asBool x with
  | .neg, some (k, n), _ => .leaf (.si k (k.wrap (0 - n)))
  | .xor, some (k, n), _ => .leaf (.si k (bits .xor k (if k.signed then -1 else k.max) n))
  | .not, _, some b => .leaf (.sb !b)
  | _, _, _ => .fail

def mmT (isMax : Bool) (k : IntKind) : Int → List (SV U.Ty) → Option Int
  | a, [] => some a
  | a, x :: rest => match asInt x with
    | some (j, b) => if k = j then mmT isMax k (if isMax then (if b > a then b else a) else (if b < a then b else a)) rest else none
    | none => none

def minmaxT (isMax : Bool) : List (SV U.Ty) → Tr U (SV U.Ty)
  | x :: rest => match asInt x with
    | some (k, a) => (match mmT isMax k a rest with | some r => .leaf (.si k r) | none => .fail)
    | none => .fail
  | [] => .fail

/-! ### literals, fields -/

def fillS (cs : List (SV U.Ty)) : List (Nat × SV U.Ty) → (Nat → Option (Nat × Nat)) → Option (List (SV U.Ty))
  | [], _ => some cs
  | (i, v) :: rest, place =>
    match place i with
    | none => none
    | some (off, size) => if (cellsS v).length == size && decide (off + size ≤ cs.length) && okS v then fillS (cs.take off ++ cellsS v ++ cs.drop (off + size)) rest place else none

def buildT (E : Env) (t : TypeId) (parts : List (Nat × SV U.Ty)) : Option (SV U.Ty) :=
  match E.ti t with
  | some i => match i.zero with
    | some z =>
      if okV z then
        match i.ty with
        | .struct fs => if fs.all fun x => (E.ti x.2).isSome then (fillS (cellsS (ofV U z)) parts (placesOf E fs)).map .agg else none
        | .array _ e => match E.ti e with
          | some ei => (fillS (cellsS (ofV U z)) parts (fun i => some (i * ei.size, ei.size))).map .agg
          | none => none
        | _ => none
      else none
    | none => none
  | none => none

def decAll (e : Nat) : List (SV U.Ty) → Option (List (U.Ty e))
  | [] => some []
  | v :: vs => match okS v, U.decS e v, decAll e vs with | true, some a, some as => some (a :: as) | _, _, _ => none

def buildSliceT (E : Env) (k : Nat) (H : SHeap U) (t : TypeId) (n : Nat) (parts : List (Nat × SV U.Ty)) : Tr U (SV U.Ty × SHeap U) :=
  match E.ti t with
  | some ⟨.slice e, _, _, _⟩ => match E.ti e with
    | some ei => match ei.zero with
      | some z => (frzAllS H (parts.map (·.2))).andThen fun vs => match decAll e vs with
        | some ys => .when ((n * ei.size ≤ 16777216 ∧ 0 < ei.size ∧ z.cells.length = ei.size ∧ okV z = true) ∧ parts.map (·.1) = List.range n ∧ vs.all (fun v => (cellsS v).length == ei.size) = true ∧ U.esz e = ei.size)
            (.leaf (.all k n, placeS (bumpS H ((parts.map (·.2)).flatMap idsAS)) k (.row e ys none)))
        | none => .fail
      | none => .fail
    | none => .fail
  | _ => .fail

def fieldAddrT (E : Env) (s : TypeId) (x : SV U.Ty) (f : Nat) : Option (SV U.Ty) :=
  match E.ti s with
  | some ⟨.struct fs, _, _, _⟩ => match fs[f]? with
    | some (o, t) => match E.size t with
      | some sz => if sz = 0 then none else match x with
        | .ptr id j off tot => some (.ptr id j (off + o) tot)
        | .ept d xs j off => some (.ept d xs j (off + o))
        | .raw (.ept d xs j off) => some (.raw (.ept d xs j (off + o)))
        | _ => none
      | none => none
    | none => none
  | _ => none

def fieldT (E : Env) (s : TypeId) (x : SV U.Ty) (f : Nat) : Option (SV U.Ty) :=
  match E.ti s, x with
  | some ⟨.struct fs, _, _, _⟩, .agg cs => match fs[f]? with
    | some (o, t) => match E.ti t with | some i => partS cs o i.size i.isAgg | none => none
    | none => none
  | _, _ => none

/-! ### slices -/

def elemsT (H : SHeap U) (x : SV U.Ty) (e : Nat) : Tr U (List (U.Ty e)) :=
  let go (t : Nat) (xs : List (U.Ty t)) : Tr U (List (U.Ty e)) := if h : t = e then .leaf (h ▸ xs) else .fail
  match x with
  | .nil _ => .leaf []
  | .sl t xs => go t xs
  | .slt t xs => go t xs
  | .all id n => rowAt H id n fun t xs _ => go t xs
  | .lsl id off len tot => rowAt H id tot fun t xs _ => .chk (decide (off + len ≤ tot)) (go t ((xs.drop off).take len))
  | _ => .fail

def appendT (E : Env) (k : Nat) (H : SHeap U) (t u : TypeId) (s x : SV U.Ty) : Tr U (SV U.Ty × SHeap U) :=
  match E.ti t with
  | some ⟨.slice e, _, _, _⟩ => match E.ti e with
    | some ei => .when (u = t ∧ 0 < ei.size ∧ ei.zok = true ∧ U.esz e = ei.size) ((elemsT H x e).andThen fun ys =>
        match s with
        | .all id n => rowAt H id n fun t' xs fl => if h : t' = e then
            .chk (decide ((n + ys.length) * ei.bytes ≤ lim) && decide (n + ys.length ≤ maxLen))
              (.leaf (.all id ((h ▸ xs : List (U.Ty e)) ++ ys).length, H.set id (.row e ((h ▸ xs : List (U.Ty e)) ++ ys) fl)))
          else .fail
        | .nil _ => .chk (decide (ys.length * ei.bytes ≤ lim) && decide (ys.length ≤ maxLen)) (.leaf (.all k ys.length, placeS H k (.row e ys none)))
        | .slt t' xs => if h : t' = e then
            .chk (decide ((xs.length + ys.length) * ei.bytes ≤ lim) && decide (xs.length + ys.length ≤ maxLen))
              (.br ys.isEmpty (.leaf (.slt t' xs, H)) (.leaf (.all k ((h ▸ xs : List (U.Ty e)) ++ ys).length, placeS H k (.row e ((h ▸ xs : List (U.Ty e)) ++ ys) none))))
          else .fail
        | _ => .fail)
    | none => .fail
  | _ => .fail

def copyT (E : Env) (H : SHeap U) (t u : TypeId) (d x : SV U.Ty) : Tr U (SV U.Ty × SHeap U) :=
  match E.ti t with
  | some ⟨.slice e, _, _, _⟩ => match E.ti e with
    | some ei => .when (U.esz e = ei.size) ((elemsT H x e).andThen fun ys =>
        match d with
        | .all id n => rowAt H id n fun t' xs fl => if h : t' = e then
            .when (fl.getD 0 = 0) (.leaf (.si .i64 (min ys.length xs.length : Nat), H.set id (.row e (ys.take xs.length ++ (h ▸ xs : List (U.Ty e)).drop ys.length) fl)))
          else .fail
        | _ => .fail)
    | none => .fail
  | _ => .fail

def lenT (x : SV U.Ty) : Option Nat :=
  match x with
  | .nil _ => some 0
  | .sl _ xs => some xs.length
  | .slt _ xs => some xs.length
  | .lit (.string s) => some s.size
  | .ss s => some s.size
  | _ => none

/-- The length of a slice in a box, whose version is looked at. -/
def lenAt {L : Type} (H : SHeap U) (x : SV U.Ty) (k : Nat → Tr U L) : Tr U L :=
  match x with
  | .all id n => rowAt H id n fun _ _ _ => k n
  | .lsl id _ len tot => rowAt H id tot fun _ _ _ => k len
  | x => match lenT x with | some n => k n | none => .fail

def isStrS (x : SV U.Ty) : Bool := (asStr x).isSome
def lenFitsS (E : Env) (t : TypeId) (x : SV U.Ty) : Bool :=
  if isStrS x then E.isStr t else match E.ti t with | some ⟨.slice _, _, _, _⟩ => true | _ => false

/-- A bound of a slice expression, known or to be looked at. -/
def boundT {L : Type} (x : Option (SV U.Ty)) (hi dflt : Nat) (k : Nat → Tr U L) : Tr U L :=
  match x with
  | none => k dflt
  | some v => match asInt v with
    | some (_, n) => .chk (decide (0 ≤ n ∧ n ≤ hi)) (k n.toNat)
    | none => .fail

def eszIsS (E : Env) (H : SHeap U) (x : SV U.Ty) (n : Nat) : Bool :=
  match x with
  | .nil _ => true
  | .sl t _ => U.esz t == n
  | .slt t _ => U.esz t == n
  | .all id _ | .lsl id _ _ _ => match H[id]? with | some (.row t _ _) => U.esz t == n | _ => false
  | _ => false

def sliceFitsS (E : Env) (H : SHeap U) (t : TypeId) (x : SV U.Ty) : Bool :=
  if isStrS x then E.isStr t else match E.ti t with
    | some ⟨.slice e, _, _, _⟩ => match E.ti e with | some ei => eszIsS E H x ei.size | none => false
    | _ => false

def sliceT (E : Env) (H : SHeap U) (t : TypeId) (x : SV U.Ty) (lo hi mx : Option (SV U.Ty)) : Tr U (SV U.Ty × SHeap U) :=
  if sliceFitsS E H t x then
    lenAt H x fun n => boundT hi n n fun h => boundT lo h 0 fun l =>
      match mx with
      | some m => (match hi with
        | none => .fail
        | some _ => boundT (some m) n n fun k => .chk (k == h)
          (match x with
           | .sl e xs => .leaf (.slt e ((xs.drop l).take (h - l)), H)
           | .slt e xs => .leaf (.slt e ((xs.drop l).take (h - l)), H)
           | .all id n => rowAt H id n fun e xs _ => .leaf (.slt e ((xs.drop l).take (h - l)), bumpS H [id])
           | _ => .fail))
      | none => match x with
        | .nil e => .leaf (.nil e, H)
        | .sl e xs => .leaf (.sl e ((xs.drop l).take (h - l)), H)
        | .slt e xs => .leaf (.sl e ((xs.drop l).take (h - l)), H)
        | .all id n => (match lo, hi with
          | none, none => .leaf (.all id n, H)
          | _, _ => .leaf (.lsl id l (h - l) n, H))
        | .lsl id off _ tot => .leaf (.lsl id (off + l) (h - l) tot, H)
        | x => match asStr x with
          | some s => .leaf (.ss (s.extract l h), H)
          | none => .fail
  else .fail

def optBoundS (x : Option (SV U.Ty)) (n : Nat) : Option Nat := match x with
  | none => some n
  | some (.lit (.int _ h)) => if 0 ≤ h ∧ h ≤ n then some h.toNat else none
  | _ => none
def sliceAT (E : Env) (H : SHeap U) (n e : Nat) (x : SV U.Ty) (lo hi mx : Option (SV U.Ty)) : Tr U (SV U.Ty × SHeap U) :=
  match x, lo, optBoundS hi n, mx with
  | .ptr id i off tot, none, some m, none => match H[id]? with
    | some (.var e' k (.agg cs)) => match decAll e cs with
      | some ys => .when ((i = 0 ∧ off = 0 ∧ tot = 1 ∧ cs.length = n ∧ n ≤ maxLen) ∧ E.size e = some 1 ∧ U.esz e = 1 ∧ cs.all (fun c => (scal c).isSome) = true) (.leaf (.sl e (ys.take m), H.set id (.fvar e' k (.agg cs))))
      | none => .fail
    | _ => .fail
  | _, _, _, _ => .fail
/-- Elements that are scalars. -/
def getsT {L : Type} {t : Nat} (xs : List (U.Ty t)) : Nat → Nat → (List Value → Tr U L) → Tr U L
  | _, 0, k => k []
  | i, n + 1, k => .bind t xs[i]? fun x => match scal (U.encS t x) with | some v => getsT xs (i + 1) n fun vs => k (v :: vs) | none => .fail
/-- The first elements of a slice as an array. -/
def arrT (E : Env) (t : TypeId) (x : SV U.Ty) : Tr U (SV U.Ty) :=
  match E.ti t, x with
  | some ⟨.array n e, _, _, _⟩, .sl t' xs => .when (E.size e = some 1 ∧ U.esz t' = 1 ∧ 0 < n) (getsT xs 0 n fun vs => .leaf (.raw (.ept n [.agg (vs.map .lit)] 0 0)))
  | _, _ => .fail

/-- An element's place, one of few. -/
def pickIdx {L : Type} (n : Int) (lit : Bool) (len : Nat) (k : Nat → Tr U L) : Tr U L :=
  if lit then (if 0 ≤ n ∧ n < len then k n.toNat else .fail)
  else (List.range len).foldr (fun (i : Nat) rest => .br (n == (i : Int)) (k i) rest) .fail

def indexAddrT (E : Env) (H : SHeap U) (t : TypeId) (x i : SV U.Ty) : Tr U (SV U.Ty) :=
  match asInt i, E.ti t with
  | some (_, n), some ti =>
    match ti.ty with
    | .slice el => (match x with
      | .sl et xs => .when (E.size el = some (U.esz et)) (.chk (decide (0 ≤ n ∧ n < xs.length)) (.leaf (.ept et xs n.toNat 0)))
      | .slt et xs => .when (E.size el = some (U.esz et)) (.chk (decide (0 ≤ n ∧ n < xs.length)) (.leaf (.ept et xs n.toNat 0)))
      | .all id m => rowAt H id m fun et xs _ => .when (E.size el = some (U.esz et)) (.chk (decide (0 ≤ n ∧ n < m)) (.leaf (.ptr id n.toNat 0 m)))
      | .lsl id off len tot => rowAt H id tot fun et xs _ => .when (E.size el = some (U.esz et)) (.chk (decide (0 ≤ n ∧ n < len)) (.leaf (.ptr id (off + n.toNat) 0 tot)))
      | _ => .fail)
    | .array len e => (match E.size e with
      | none => .fail
      | some sz => match x with
        | .ptr id j off tot => pickIdx n (isLit i) len fun m => .leaf (.ptr id j (off + m * sz) tot)
        | .ept d xs j off => pickIdx n (isLit i) len fun m => .leaf (.ept d xs j (off + m * sz))
        | .raw (.ept d xs j off) => pickIdx n (isLit i) len fun m => .leaf (.raw (.ept d xs j (off + m * sz)))
        | _ => .fail)
    | _ => .fail
  | _, _ => .fail

def indexT (E : Env) (t : TypeId) (x i : SV U.Ty) : Tr U (SV U.Ty) :=
  match asInt i with
  | some (_, n) =>
    match E.ti t, x with
    | some ⟨.array len e, _, _, _⟩, .agg cs => match E.ti e with
      | some ei => pickIdx n (isLit i) len fun m => .opt (partS cs (m * ei.size) ei.size ei.isAgg)
      | none => .fail
    | some ⟨.scalar, _, _, _⟩, x => match asStr x with
      | some s => if E.isStr t then .chk (decide (0 ≤ n ∧ n < s.size)) (.leaf (.si .u8 (s.get! n.toNat).toNat)) else .fail
      | none => .fail
    | _, _ => .fail
  | none => .fail

def okBytes (U : Univ) (t : Nat) (xs : List (U.Ty t)) : Bool := match bytesOf (xs.map (U.enc t)) with | some bs => decide (bs.length ≤ maxLen) | none => false
def strOf (U : Univ) (t : Nat) (xs : List (U.Ty t)) : ByteArray := ⟨((bytesOf (xs.map (U.enc t))).getD []).toArray⟩
def convB (t : Nat) (xs : List (U.Ty t)) : Tr U (SV U.Ty) := .when (U.esz t = 1) (.chk (okBytes U t xs) (.leaf (.ss (strOf U t xs))))
def convBT (E : Env) (H : SHeap U) (src dst : TypeId) (x : SV U.Ty) : Tr U (SV U.Ty) :=
  .when ((E.isStr dst && E.isBytes src) = true) (match x with
    | .nil _ => .leaf (.ss ⟨#[]⟩)
    | .sl t xs => convB t xs
    | .slt t xs => convB t xs
    | .all id n => rowAt H id n fun t xs _ => convB t xs
    | .lsl id off len tot => rowAt H id tot fun t xs _ => .chk (decide (off + len ≤ tot)) (convB t ((xs.drop off).take len))
    | _ => .fail)

def convT (E : Env) (H : SHeap U) (src dst : TypeId) (x : SV U.Ty) : Tr U (SV U.Ty) :=
  match asInt x with
  | some (_, n) => (match E.kind dst with
    | some k => if (E.ti src).isSome then .leaf (.si k (k.wrap n)) else .fail
    | none => .fail)
  | none => match asStr x with
    | some s => if E.isStr src && E.isStr dst then .leaf (.ss s) else .fail
    | none => convBT E H src dst x

def okStr (U : Univ) (e : Nat) (st : ByteArray) : Bool := st.data.toList.all fun b => (U.decS e (.si .u8 b.toNat)).isSome
def strBytes (U : Univ) (e : Nat) (st : ByteArray) : List (U.Ty e) := st.data.toList.filterMap fun b => U.decS e (.si .u8 b.toNat)
def convST (E : Env) (k : Nat) (H : SHeap U) (dst : TypeId) (x : SV U.Ty) : Tr U (SV U.Ty × SHeap U) :=
  match asStr x, E.ti dst with
  | some st, some ⟨.slice e, _, _, _⟩ => .when (E.size e = some 1 ∧ U.esz e = 1) (.chk (okStr U e st) (.leaf (.all k (strBytes U e st).length, placeS H k (.row e (strBytes U e st) none))))
  | _, _ => .fail

/-! ### one operation -/

/-- What the functions that are called come to. -/
abbrev Mdl (U : Univ) := FuncId → List (SV U.Ty) → SHeap U → Tr U (SV U.Ty × SHeap U)

def okInt (x : SV U.Ty) : Option (Int × Bool) := match x with | .lit (.int _ n) => some (n, true) | .si _ n => some (n, false) | _ => none

def retT (H : SHeap U) (T : Tr U (SV U.Ty)) : Tr U (SV U.Ty × SHeap U) := T.andThen fun v => .leaf (v, H)

def callT (E : Env) (M : Mdl U) (k : Nat) (H : SHeap U) (s : List (SV U.Ty)) (c : Call) : Tr U (SV U.Ty × SHeap U) :=
  match c.callee with
  | .builtin b => (match b, c.args.toList.map (evS E s), c.argTypes.toList with
    | .len, [x], [t] => if lenFitsS E t x then lenAt H x fun n => .leaf (.si .i64 n, H) else .fail
    | .append, [a, x], [t, u] => appendT E k H t u a x
    | .copy, [d, x], [t, u] => copyT E H t u d x
    | .min, args, _ => retT H (minmaxT false args)
    | .max, args, _ => retT H (minmaxT true args)
    | _, _, _ => .fail)
  | .value f => (match evS E s f with
    | .fn g first caps => M g (first ++ c.args.toList.map (evS E s) ++ caps) H
    | _ => .fail)
  | _ => .fail

def opT (E : Env) (M : Mdl U) (k : Nat) (H : SHeap U) (s : List (SV U.Ty)) (o : Oper) : Tr U (SV U.Ty × SHeap U) :=
  match o.op with
  | .move x => .leaf (evS E s x, H)
  | .assign (.const (.slice none 0 0)) => match E.ti o.type with
    | some ⟨.slice e, _, _, _⟩ => .when (U.esz e = (E.size e).getD 0) (.leaf (.all k 0, placeS H k (.row e [] none)))
    | _ => .fail
  | .assign x => .leaf (evS E s x, H)
  | .pick c a b => (match evS E s c with
    | .lit (.bool true) => .leaf (evS E s a, H)
    | .lit (.bool false) => .leaf (evS E s b, H)
    | .sb t => (match asBool (evS E s a), asBool (evS E s b) with
      | some x, some y => .leaf (.sb (cond t x y), H)
      | _, _ => .br t (.leaf (evS E s a, H)) (.leaf (evS E s b, H)))
    | _ => .fail)
  | .alloc t => match E.ti t with
    | some i => match i.zero with | some z => .when (z.cells.length = i.size ∧ okV z = true) (.leaf (.ptr k 0 0 1, placeS H k (.var t i.size (ofV U z)))) | none => .fail
    | none => .fail
  | .box t x => match E.ti t with
    | some i => .when ((cellsS (evS E s x)).length = i.size ∧ okS (evS E s x) = true) (.leaf (.ptr k 0 0 1, placeS H k (.var t i.size (evS E s x))))
    | none => .fail
  | .build t parts => retT H (.opt (buildT E t (parts.toList.map fun (i, x) => (i, evS E s x))))
  | .buildSlice t n parts => buildSliceT E k H t n (parts.toList.map fun (i, x) => (i, evS E s x))
  | .load t a => retT H (loadT E H t (evS E s a))
  | .store t a v => (storeT E H t (evS E s a) (evS E s v)).andThen fun H' => .leaf (.no, H')
  | .nilCheck x => (match evS E s x with
    | .ptr a b c d => .leaf (.ptr a b c d, H)
    | .ept a b c d => .leaf (.ept a b c d, H)
    | .raw (.ept a b c d) => .leaf (.raw (.ept a b c d), H)
    | .fn a b c => .leaf (.fn a b c, H)
    | _ => .fail)
  | .binOp op t x y _ => retT H (binT E op t (evS E s x) (evS E s y))
  | .unOp op _ x => retT H (unT op (evS E s x))
  | .convert src dst x => if E.isStr src && E.isBytes dst then convST E k H dst (evS E s x) else retT H (convT E H src dst (evS E s x))
  | .makeSlice t l c => match E.ti t with
    | some ⟨.slice e, _, _, _⟩ => (match okInt (evS E s l), okInt (evS E s c), E.ti e with
      | some (n, _), some (m, _), some ei => (match ei.zero with
        | some z => (match U.decS e (ofV U z) with
          | some y => .when (0 < ei.size ∧ z.cells.length = ei.size ∧ okV z = true ∧ U.esz e = ei.size)
              (.chk (decide (0 ≤ n ∧ n ≤ m ∧ m.toNat * ei.bytes ≤ lim ∧ m ≤ maxLen)) (.leaf (.all k (List.replicate n.toNat y).length, placeS H k (.row e (List.replicate n.toNat y) none))))
          | none => .fail)
        | none => .fail)
      | _, _, _ => .fail)
    | _ => .fail
  | .slice t x lo hi mx => match E.ti t with
    | some ⟨.array n e, _, _, _⟩ => sliceAT E H n e (evS E s x) (lo.map (evS E s)) (hi.map (evS E s)) (mx.map (evS E s))
    | _ => sliceT E H t (evS E s x) (lo.map (evS E s)) (hi.map (evS E s)) (mx.map (evS E s))
  | .sliceToArrayPointer t x => retT H (arrT E t (evS E s x))
  | .fieldAddr t x f => retT H (.opt (fieldAddrT E t (evS E s x) f))
  | .field t x f => retT H (.opt (fieldT E t (evS E s x) f))
  | .indexAddr t x i => retT H (indexAddrT E H t (evS E s x) (evS E s i))
  | .index t x i => retT H (indexT E t (evS E s x) (evS E s i))
  | .extract x i => (match evS E s x with | .tup vs => retT H (.opt vs[i]?) | _ => .fail)
  | .makeFunc (.func f) first caps => .leaf (.fn f (first.toList.map (evS E s)) (caps.toList.map (evS E s)), H)
  | .call c => callT E M k H s c
  | _ => .fail

/-! ### regions -/

def stepT (E : Env) (M : Mdl U) (ops : Array Oper) (k i : Nat) (st : SSt U) : Tr U (SSt U) :=
  match ops[i]? with
  | none => .leaf st
  | some o =>
    let run (st : SSt U) : Tr U (SSt U) := (opT E M k st.H st.s o).andThen fun r => .leaf ⟨setS st.s o.dst r.1, r.2⟩
    let skip (st : SSt U) : Tr U (SSt U) := .leaf ⟨setS st.s o.dst .no, st.H⟩
    match o.guard with
    | none => run st
    | some (j, want) =>
      match (ops[j]?).bind (·.dst) with
      | none => .fail
      | some d => (match st.s.getD d .und with
        | .no => skip st
        | .lit (.bool true) => if want then run st else skip st
        | .lit (.bool false) => if want then skip st else run st
        | .sb b => .br b (if want then run ⟨st.s.set d (.lit (.bool true)), st.H⟩ else skip ⟨st.s.set d (.lit (.bool true)), st.H⟩)
            (if want then skip ⟨st.s.set d (.lit (.bool false)), st.H⟩ else run ⟨st.s.set d (.lit (.bool false)), st.H⟩)
        | _ => .fail)

def opsT (E : Env) (M : Mdl U) (ops : Array Oper) : List Nat → SSt U → Tr U (SSt U)
  | [], st => .leaf st
  | i :: rest, st => (stepT E M ops st.H.length i st).andThen (opsT E M ops rest)

def ref1S : SV U.Ty → List Nat
  | .lsl id _ _ _ => [id]
  | .all id _ => [id]
  | .ptr id _ _ _ => [id]
  | .raw v => ref1 v
  | _ => []
def refsS : SV U.Ty → List Nat
  | .agg cs => cs.flatMap ref1S
  | .raw v => refsV v
  | v => ref1S v
def refsOS (E : Env) (s : List (SV U.Ty)) (o : Oper) : List Nat := o.op.operands.toList.flatMap fun x => refsS (evS E s x)

def isDead : SBox U.Ty → Bool | .dead => true | _ => false

def addrOfS (E : Env) (s : List (SV U.Ty)) (o : Oper) : SV U.Ty := match writesAt o with | some a => evS E s a | _ => .no
def lateAtS (H : SHeap U) (a : SV U.Ty) (k : Nat) : Bool := match a with
  | .ptr id _ _ tot => id == k && (match H[id]? with | some (.var _ _ _) => tot == 1 | _ => false)
  | .all id _ => id == k && (match H[id]? with | some (.row _ _ _) => true | _ => false)
  | _ => false
def tgtNoS (base : Nat) (s0 : List (SV U.Ty)) : Nat ⊕ Nat → Option Nat
  | .inl j => some (base + j)
  | .inr d => match s0.getD d .und with | .ptr id _ _ _ => some id | .all id _ => some id | _ => none
def lateT (E : Env) (ms : List Nat) (lt : List (Nat × (Nat ⊕ Nat))) (s0 : List (SV U.Ty)) (base i : Nat) (s : List (SV U.Ty)) (H : SHeap U) (o : Oper) : Bool :=
  lt.all fun p => match tgtNoS base s0 p.2 with
    | none => false
    | some k => if p.1 = i then lateAtS H (addrOfS E s o) k else !needs E o || (linked ms p.1 i || !(refsOS E s o).contains k)

def stepRT (E : Env) (M : Mdl U) (ops : Array Oper) (ms : List Nat) (lt : List (Nat × (Nat ⊕ Nat))) (s0 : List (SV U.Ty)) (base m i : Nat) (st : SSt U) : Tr U (SSt U) :=
  match ops[i]? with
  | none => .leaf st
  | some o =>
    .when ((refsOS E st.s o).all (fun id => decide (id < base) || (decide (base + m ≤ id) && freeAt E ops ms i) || (decide (id < base + m) && (ms.getD i 0).testBit (id - base))) = true) (.when ((lateT E ms lt s0 base i st.s st.H o && (!decide (clsOf E o = .c) || decide (base + m ≤ st.H.length))) = true)
      (if clsOf E o = .a then
        match st.H[base + i]? with
        | some b => if isDead b then stepT E M ops (base + i) i st else .fail
        | none => .fail
       else stepT E M ops st.H.length i st))

def stepsRT (E : Env) (M : Mdl U) (ops : Array Oper) (ms : List Nat) (lt : List (Nat × (Nat ⊕ Nat))) (s0 : List (SV U.Ty)) (base m : Nat) : List Nat → SSt U → Tr U (SSt U)
  | [], st => .leaf st
  | i :: rest, st => (stepRT E M ops ms lt s0 base m i st).andThen (stepsRT E M ops ms lt s0 base m rest)

def drawT (E : Env) (M : Mdl U) (ops : Array Oper) (st : SSt U) : Tr U (SSt U) :=
  let m := if ops.any (fun o => decide (clsOf E o = .a)) then ops.size else 0
  stepsRT E M ops (masksD [] ops.toList) (lates E ops) st.s st.H.length m (List.range ops.size) ⟨st.s, st.H ++ List.replicate m .dead⟩

end

end Go.Proofs.YtkepnndakhpgoaaGreatDoor.Le

/-
  Symbolic values stand for values: freezing, reading, writing.
-/
namespace Go.Proofs.YtkepnndakhpgoaaGreatDoor.Le
set_option linter.unusedVariables false
set_option linter.unusedSimpArgs false

structure UnivOK (U : Univ) (E : Env) : Prop where
  encS : ∀ t a, toV U (U.encS t a) = U.enc t a
  dec : ∀ t v a, U.decS t v = some a → retype (E.rows t) (toV U v) = U.enc t a
  cells : ∀ t a, (U.enc t a).cells = toVs U (cellsS (U.encS t a))
  nr : ∀ t a, noRef (U.enc t a) = true
  inj : ∀ t ∈ U.keys, ∀ a b, U.enc t a = U.enc t b → a = b

section
variable {U : Univ}

theorem toVs_map (xs : List (SV U.Ty)) : toVs U xs = xs.map (toV U) := by
  induction xs with
  | nil => rfl
  | cons x xs ih => simp [toVs, ih]

theorem toVs_getD (s : List (SV U.Ty)) (t : Nat) : (toVs U s).getD t .und = toV U (s.getD t .und) := by
  rw [toVs_map]
  simp only [List.getD, List.getElem?_map]
  cases s[t]? <;> rfl

theorem toV_ofV1 (v : V) : toV U (ofV1 U v) = v := by
  unfold ofV1
  split <;> rfl

theorem toV_ofV (v : V) : toV U (ofV U v) = v := by
  unfold ofV
  split
  · rename_i cs
    simp only [toV, toVs_map, List.map_map, V.agg.injEq]
    conv => rhs; rw [← List.map_id cs]
    apply List.map_congr_left
    intro x _
    exact toV_ofV1 x
  · exact toV_ofV1 _

theorem ev_toV (E : Env) (s : List (SV U.Ty)) (x : Operand) : ev E (toVs U s) x = toV U (evS E s x) := by
  cases x with
  | tmp t => exact toVs_getD s t
  | const v => simp only [ev, evS, toV_ofV]
  | func f => rfl
  | global g => simp only [ev, evS]; cases E.glob g <;> rfl

theorem evs_toV (E : Env) (s : List (SV U.Ty)) (xs : List Operand) : xs.map (ev E (toVs U s)) = toVs U (xs.map (evS E s)) := by
  rw [toVs_map (xs.map (evS E s)), List.map_map]
  apply List.map_congr_left
  intro x _
  exact ev_toV E s x

theorem set_toV (s : List (SV U.Ty)) (d : Option Tmp) (v : SV U.Ty) : toVs U (setS s d v) = setSlot (toVs U s) d (toV U v) := by
  unfold setS setSlot
  cases d with
  | none => rfl
  | some t => simp only [toVs_map, List.map_set]

theorem toH_length (H : SHeap U) : (toH U H).length = H.length := by simp [toH]
theorem toH_get (H : SHeap U) (i : Nat) : (toH U H)[i]? = (H[i]?).map (toBox U) := by simp [toH]
theorem toH_set (H : SHeap U) (i : Nat) (b : SBox U.Ty) : toH U (H.set i b) = (toH U H).set i (toBox U b) := by simp [toH, List.map_set]
theorem toH_place (H : SHeap U) (k : Nat) (b : SBox U.Ty) : toH U (placeS H k b) = place (toH U H) k (toBox U b) := by
  unfold placeS place
  rw [toH_length]
  split
  · exact toH_set H k b
  · simp [toH]

theorem map_congr_get {α β : Type} {f g : α → β} (l : List α) (h : ∀ x, f x = g x) : l.map f = l.map g := by
  rw [funext h]

theorem bumpBox_ok (b : SBox U.Ty) : toBox U (bumpBox b) = { toBox U b with floor := if (toBox U b).row then (toBox U b).xs.length else (toBox U b).floor } := by
  cases b <;> simp [bumpBox, toBox, newBox, deadBox]

theorem okS_okV {x : SV U.Ty} (h : okS x = true) : okV (toV U x) = true := by
  cases x <;> simp_all [okS, toV, okV]
  rename_i v
  cases v <;> simp_all [okS]

theorem cells_toV {x : SV U.Ty} (h : okS x = true) : (toV U x).cells = toVs U (cellsS x) := by
  cases x <;> simp_all [okS, toV, V.cells, cellsS, toVs]
  rename_i v
  cases v <;> simp_all [okS, V.cells]

/-! ### trees -/

theorem runs_andThen {L M : Type} (T : Tr U L) (f : L → Tr U M) (y : M) : (T.andThen f).Runs y ↔ ∃ x, T.Runs x ∧ (f x).Runs y := by
  induction T with
  | leaf l => simp [Tr.andThen, Tr.Runs]
  | br c a b iha ihb =>
    simp only [Tr.andThen, Tr.Runs, iha, ihb]
    constructor
    · rintro (⟨h, x, h1, h2⟩ | ⟨h, x, h1, h2⟩)
      · exact ⟨x, .inl ⟨h, h1⟩, h2⟩
      · exact ⟨x, .inr ⟨h, h1⟩, h2⟩
    · rintro ⟨x, (⟨h, h1⟩ | ⟨h, h1⟩), h2⟩
      · exact .inl ⟨h, x, h1, h2⟩
      · exact .inr ⟨h, x, h1, h2⟩
  | bind t o k ih =>
    simp only [Tr.andThen, Tr.Runs, ih]
    constructor
    · rintro ⟨a, h, x, h1, h2⟩; exact ⟨x, ⟨a, h, h1⟩, h2⟩
    · rintro ⟨x, ⟨a, h, h1⟩, h2⟩; exact ⟨a, h, x, h1, h2⟩
  | chk c a ih =>
    simp only [Tr.andThen, Tr.Runs, ih]
    constructor
    · rintro ⟨h, x, h1, h2⟩; exact ⟨x, ⟨h, h1⟩, h2⟩
    · rintro ⟨x, ⟨h, h1⟩, h2⟩; exact ⟨h, x, h1, h2⟩
  | fail => simp [Tr.andThen, Tr.Runs]

theorem runs_opt {L : Type} {o : Option L} {x : L} : (Tr.opt (U := U) o).Runs x ↔ o = some x := by
  cases o <;> simp [Tr.opt, Tr.Runs]

theorem runs_when {L : Type} {p : Prop} [Decidable p] {a : Tr U L} {x : L} : (Tr.when p a).Runs x ↔ p ∧ a.Runs x := by
  unfold Tr.when
  split <;> simp_all [Tr.Runs]

theorem rowAt_runs {L : Type} {H : SHeap U} {id tot : Nat} {k : (t : Nat) → List (U.Ty t) → Option Nat → Tr U L} {y : L} (h : (rowAt H id tot k).Runs y) :
    ∃ t xs fl, H[id]? = some (.row t xs fl) ∧ xs.length = tot ∧ (k t xs fl).Runs y ∧ boxAt (toH U H) id tot = some (toBox U (.row t xs fl)) := by
  unfold rowAt at h
  split at h
  · rename_i t xs fl hb
    simp only [Tr.Runs, beq_iff_eq] at h
    refine ⟨t, xs, fl, hb, h.1, h.2, ?_⟩
    unfold boxAt
    rw [toH_get, hb]
    simp [toBox, h.1]
  · simp [Tr.Runs] at h

/-! ### freezing -/

theorem frz0S_ok {H : SHeap U} {x y : SV U.Ty} (h : (frz0S H x).Runs y) : frz0 (toH U H) (toV U x) = some (toV U y) := by
  unfold frz0S at h
  split at h <;> (try (simp only [Tr.Runs] at h; subst h; rfl))
  · obtain ⟨t, xs, fl, h1, h2, h3, h4⟩ := rowAt_runs h
    simp only [Tr.Runs] at h3
    subst h3
    subst h2
    simp only [toV, frz0, h4]
    simp only [toBox, Nat.zero_add, Nat.le_refl, decide_true, Bool.and_self, if_true, List.drop_zero, Option.some.injEq, V.sl.injEq, true_and]
    exact List.take_of_length_le (by simp)
  · obtain ⟨t, xs, fl, h1, h2, h3, h4⟩ := rowAt_runs h
    simp only [Tr.Runs, decide_eq_true_eq] at h3
    obtain ⟨h3, rfl⟩ := h3
    simp only [toV, frz0, h4]
    simp [toBox, h3, List.map_take, List.map_drop]
  · simp [Tr.Runs] at h

theorem frzLS_ok {H : SHeap U} : ∀ {xs ys : List (SV U.Ty)}, (frzLS H xs).Runs ys → frzL (toH U H) (toVs U xs) = some (toVs U ys) := by
  intro xs
  induction xs with
  | nil => intro ys h; simp only [frzLS, Tr.Runs] at h; subst h; rfl
  | cons x xs ih =>
    intro ys h
    simp only [frzLS, runs_andThen, Tr.Runs] at h
    obtain ⟨w, h1, ws, h2, rfl⟩ := h
    simp only [toVs, frzL, frz0S_ok h1, ih h2]

theorem frzS_ok {H : SHeap U} {x y : SV U.Ty} (h : (frzS H x).Runs y) : frz (toH U H) (toV U x) = some (toV U y) := by
  unfold frzS at h
  split at h
  · rename_i cs
    simp only [runs_andThen, Tr.Runs] at h
    obtain ⟨ws, h1, rfl⟩ := h
    simp only [toV, frz, frzLS_ok h1, Option.map_some]
  · rename_i hne
    have := frz0S_ok h
    unfold frz
    split
    · rename_i cs hcs
      exfalso
      cases x <;> simp_all [toV, frz0S, Tr.Runs]
    · exact this

theorem frzAllS_ok {H : SHeap U} : ∀ {xs ys : List (SV U.Ty)}, (frzAllS H xs).Runs ys → frzAll (toH U H) (toVs U xs) = some (toVs U ys) := by
  intro xs
  induction xs with
  | nil => intro ys h; simp only [frzAllS, Tr.Runs] at h; subst h; rfl
  | cons x xs ih =>
    intro ys h
    simp only [frzAllS, runs_andThen, Tr.Runs] at h
    obtain ⟨w, h1, ws, h2, rfl⟩ := h
    simp only [toVs, frzAll, frzS_ok h1, ih h2]

theorem ids1_toV (x : SV U.Ty) : ids1 (toV U x) = ids1S x := by
  cases x <;> simp [toV, ids1, ids1S]
theorem idsA_toV (x : SV U.Ty) : idsA (toV U x) = idsAS x := by
  cases x <;> simp [toV, idsA, idsAS, ids1S, ids1]
  rename_i cs
  rw [toVs_map, List.flatMap_map]
  simp [ids1_toV]
theorem idsAs_toV (xs : List (SV U.Ty)) : (toVs U xs).flatMap idsA = xs.flatMap idsAS := by
  rw [toVs_map, List.flatMap_map]
  simp [idsA_toV]

theorem ref1_toV (x : SV U.Ty) : ref1 (toV U x) = ref1S x := by
  cases x <;> simp [toV, ref1, ref1S]
theorem refsV_toV (x : SV U.Ty) : refsV (toV U x) = refsS x := by
  cases x <;> simp [toV, refsV, refsS, ref1S, ref1]
  rename_i cs
  rw [toVs_map, List.flatMap_map]
  simp [ref1_toV]

/-- What is bumped is a row that was looked at. -/
def rowsIn (H : SHeap U) (ids : List Nat) : Prop := ∀ i ∈ ids, ∀ b, H[i]? = some b → ∃ t xs fl, b = .row t xs fl

theorem bumpS_ok (H : SHeap U) : ∀ (ids : List Nat), (∀ i ∈ ids, ∃ t xs fl, H[i]? = some (.row t xs fl)) → toH U (bumpS H ids) = bump (toH U H) ids := by
  intro ids
  induction ids generalizing H with
  | nil => intro _; rfl
  | cons i is ih =>
    intro h
    simp only [bumpS, bump]
    have hmod : toH U (H.modify i bumpBox) = (toH U H).modify i fun b => { b with floor := b.xs.length } := by
      apply List.ext_getElem?
      intro j
      simp only [toH, List.getElem?_map, List.getElem?_modify]
      by_cases hij : i = j
      · subst hij
        obtain ⟨t, xs, fl, hb⟩ := h i (by simp)
        simp [hb, bumpBox, toBox]
      · simp [hij]
    rw [ih, hmod]
    intro j hj
    obtain ⟨t, xs, fl, hb⟩ := h j (by simp [hj])
    by_cases hij : i = j
    · subst hij
      exact ⟨t, xs, some xs.length, by simp [List.getElem?_modify, hb, bumpBox]⟩
    · exact ⟨t, xs, fl, by simp [List.getElem?_modify, hij, hb]⟩

theorem frz0S_rows {H : SHeap U} {x y : SV U.Ty} (h : (frz0S H x).Runs y) : ∀ i ∈ ids1S x, ∃ t xs fl, H[i]? = some (.row t xs fl) := by
  intro i hi
  unfold frz0S at h
  split at h <;> (try (simp [ids1S] at hi))
  · obtain ⟨t, xs, fl, h1, _⟩ := rowAt_runs h
    subst hi
    exact ⟨t, xs, fl, h1⟩
  · obtain ⟨t, xs, fl, h1, _⟩ := rowAt_runs h
    subst hi
    exact ⟨t, xs, fl, h1⟩
  · simp [Tr.Runs] at h

theorem frzLS_rows {H : SHeap U} : ∀ {xs ys : List (SV U.Ty)}, (frzLS H xs).Runs ys → ∀ i ∈ xs.flatMap ids1S, ∃ t xs fl, H[i]? = some (.row t xs fl) := by
  intro xs
  induction xs with
  | nil => intro ys h i hi; simp at hi
  | cons x xs ih =>
    intro ys h i hi
    simp only [frzLS, runs_andThen, Tr.Runs] at h
    obtain ⟨w, h1, ws, h2, rfl⟩ := h
    simp only [List.flatMap_cons, List.mem_append] at hi
    rcases hi with hi | hi
    · exact frz0S_rows h1 i hi
    · exact ih h2 i hi

theorem frzS_rows {H : SHeap U} {x y : SV U.Ty} (h : (frzS H x).Runs y) : ∀ i ∈ idsAS x, ∃ t xs fl, H[i]? = some (.row t xs fl) := by
  unfold frzS at h
  split at h
  · simp only [runs_andThen, Tr.Runs] at h
    obtain ⟨ws, h1, rfl⟩ := h
    exact frzLS_rows h1
  · rename_i hne
    intro i hi
    refine frz0S_rows h i ?_
    cases x <;> simp_all [idsAS, ids1S]
    simp [frz0S, Tr.Runs] at h

theorem frzAllS_rows {H : SHeap U} : ∀ {xs ys : List (SV U.Ty)}, (frzAllS H xs).Runs ys → ∀ i ∈ xs.flatMap idsAS, ∃ t xs fl, H[i]? = some (.row t xs fl) := by
  intro xs
  induction xs with
  | nil => intro ys h i hi; simp at hi
  | cons x xs ih =>
    intro ys h i hi
    simp only [frzAllS, runs_andThen, Tr.Runs] at h
    obtain ⟨w, h1, ws, h2, rfl⟩ := h
    simp only [List.flatMap_cons, List.mem_append] at hi
    rcases hi with hi | hi
    · exact frzS_rows h1 i hi
    · exact ih h2 i hi

/-! ### reading -/

theorem partS_ok (cs : List (SV U.Ty)) (off n : Nat) (b : Bool) : partOf (toVs U cs) off n b = (partS cs off n b).map (toV U) := by
  unfold partOf partS
  simp only [toVs_map, List.length_map]
  split
  · split
    · simp [toV, toVs_map, List.map_take, List.map_drop]
    · rfl
  · simp

theorem length_toVs (cs : List (SV U.Ty)) : (toVs U cs).length = cs.length := by simp [toVs_map]

theorem spliceS_ok {x : SV U.Ty} {off : Nat} {cs : List (SV U.Ty)} {y : SV U.Ty} (h : spliceS x off cs = some y) : spliceV (toV U x) off (toVs U cs) = some (toV U y) := by
  unfold spliceS at h
  split at h
  · rename_i ds
    split at h
    · rename_i hle
      simp only [Option.some.injEq] at h
      subst h
      simp only [toV, spliceV, length_toVs, hle, if_true]
      simp [toVs_map, List.map_take, List.map_drop]
    · cases h
  · cases h
  · rename_i h1 h2
    split at h
    · rename_i c
      simp only [Option.some.injEq] at h
      subst h
      have : ∀ ds, toV U x ≠ .agg ds := by
        intro ds hds
        cases x <;> simp_all [toV]
      unfold spliceV
      split
      · rename_i ds hds; exact absurd hds (this ds)
      · simp [toVs]
    · cases h

theorem boxAt_var {H : SHeap U} {id : Nat} {e n : Nat} {x : SV U.Ty} (h : H[id]? = some (.var e n x)) : boxAt (toH U H) id 1 = some (newBox false false e n [toV U x]) := by
  unfold boxAt
  rw [toH_get, h]
  simp [toBox, newBox]

theorem boxAt_row {H : SHeap U} {id tot : Nat} {t : Nat} {xs : List (U.Ty t)} {fl : Option Nat} (h : H[id]? = some (.row t xs fl)) (hl : xs.length = tot) : boxAt (toH U H) id tot = some (toBox U (.row t xs fl)) := by
  unfold boxAt
  rw [toH_get, h]
  simp [toBox, hl]

theorem loadT_ok {E : Env} (hU : UnivOK U E) {H : SHeap U} {t : TypeId} {a y : SV U.Ty} (h : (loadT E H t a).Runs y) : loadD E (toH U H) t (toV U a) = some (toV U y) := by
  unfold loadT at h
  split at h
  · simp [Tr.Runs] at h
  · rename_i i hi
    unfold loadD
    rw [hi]
    simp only
    split at h
    · rename_i et xs j off
      simp only [Tr.Runs, runs_opt] at h
      obtain ⟨x, hx, hp⟩ := h
      simp only [toV, readAt, List.getElem?_map, hx, Option.map_some]
      rw [hU.cells, partS_ok, hp]
      rfl
    · rename_i id j off tot
      split at h
      · rename_i e n x hb
        simp only [runs_when, runs_opt] at h
        obtain ⟨⟨rfl, rfl, hok⟩, hp⟩ := h
        simp only [toV, boxAt_var hb, newBox, readAt, List.getElem?_cons_zero]
        rw [cells_toV hok, partS_ok, hp]
        rfl
      · rename_i et xs fl hb
        simp only [Tr.Runs, runs_opt, beq_iff_eq] at h
        obtain ⟨hl, x, hx, hp⟩ := h
        simp only [toV, boxAt_row hb hl, toBox, readAt, List.getElem?_map, hx, Option.map_some]
        rw [hU.cells, partS_ok, hp]
        rfl
      · simp [Tr.Runs] at h
    · rename_i e cs off
      simp only [runs_opt] at h
      cases hp : partOf cs off i.size i.isAgg with
      | none => simp [hp] at h
      | some v =>
        simp only [hp, Option.map_some, Option.some.injEq] at h
        subst h
        simp only [toV, readAt, List.getElem?_cons_zero, V.cells, hp, toV_ofV]
    · simp [Tr.Runs] at h

theorem storeT_ok {E : Env} (hU : UnivOK U E) {H H' : SHeap U} {t : TypeId} {a v : SV U.Ty} (h : (storeT E H t a v).Runs H') : storeD E (toH U H) t (toV U a) (toV U v) = some (toH U H') := by
  unfold storeT at h
  split at h
  · simp [Tr.Runs] at h
  · rename_i i hi
    unfold storeD
    rw [hi]
    simp only
    split at h
    · rename_i id j off tot
      split at h
      · rename_i e n x hb
        simp only [runs_when] at h
        obtain ⟨⟨⟨rfl, rfl⟩, hl, hok, hokx⟩, h⟩ := h
        split at h
        · rename_i x' hx'
          simp only [runs_when, Tr.Runs] at h
          obtain ⟨hok', rfl⟩ := h
          simp only [toV, boxAt_var hb, newBox, List.getElem?_cons_zero]
          rw [cells_toV hok, length_toVs, hl, spliceS_ok hx', okS_okV hok]
          simp [okS_okV hok', toH_set, toBox, newBox]
        · simp [Tr.Runs] at h
      · rename_i et xs fl hb
        simp only [runs_when, Tr.Runs, runs_andThen, Bool.and_eq_true, beq_iff_eq, decide_eq_true_eq] at h
        obtain ⟨⟨hl, hok, hni⟩, ⟨hlen, hfl⟩, x, hx, v', hv', h⟩ := h
        split at h
        · rename_i x' hx'
          split at h
          · rename_i y hy
            simp only [runs_when, Tr.Runs] at h
            obtain ⟨⟨hok1, hok2⟩, rfl⟩ := h
            simp only [toV, boxAt_row hb hlen, toBox, List.getElem?_map, hx, Option.map_some]
            rw [cells_toV hok, length_toVs, hl, okS_okV hok]
            have hc : (frz (toH U H) (toV U v)) = some (toV U v') := frzS_ok hv'
            have hsp := spliceS_ok hx'
            rw [hU.encS] at hsp
            have hdec := hU.dec et x' y hy
            have hokr : okV (U.enc et y) = true := by rw [← hdec, retype_ok]; exact okS_okV hok2
            rw [hc]
            simp only [cells_toV hok1, hsp, Option.map_some, hdec, hokr, okS_okV hok1, idsA_toV, hni, beq_self_eq_true, Bool.and_self, Bool.and_true, decide_eq_true hfl, if_true, Bool.not_true, Bool.or_self, Bool.false_eq_true, if_false]
            rw [toH_set, bumpS_ok H _ (frzS_rows hv')]
            simp [toBox, List.map_set]
          · simp [Tr.Runs] at h
        · simp [Tr.Runs] at h
      · simp [Tr.Runs] at h
    · simp [Tr.Runs] at h

end

end Go.Proofs.YtkepnndakhpgoaaGreatDoor.Le

/-
  Symbolic values stand for values: scalars, literals, fields, indexes.
-/
namespace Go.Proofs.YtkepnndakhpgoaaGreatDoor.Le
set_option linter.unusedVariables false
set_option linter.unusedSimpArgs false

section
variable {U : Univ}

theorem asInt_toV {x : SV U.Ty} {k : IntKind} {a : Int} (h : asInt x = some (k, a)) : toV U x = .lit (.int k a) := by
  unfold asInt at h
  split at h <;> simp_all [toV]
theorem asStr_toV {x : SV U.Ty} {s : ByteArray} (h : asStr x = some s) : toV U x = .lit (.string s) := by
  unfold asStr at h
  split at h <;> simp_all [toV]
theorem asBool_toV {x : SV U.Ty} {b : Bool} (h : asBool x = some b) : toV U x = .lit (.bool b) := by
  unfold asBool at h
  split at h <;> simp_all [toV]
theorem okInt_toV {x : SV U.Ty} {n : Int} {l : Bool} (h : okInt x = some (n, l)) : ∃ k, toV U x = .lit (.int k n) := by
  unfold okInt at h
  split at h <;> simp_all [toV]

theorem intT_ok {op : BinOp} {k : IntKind} {a b : Int} {l : Bool} {y : SV U.Ty} (h : (intT op k a b l).Runs y) : (intOp op k a b).map V.lit = some (toV U y) := by
  unfold intT at h
  cases op <;> simp only [Tr.Runs] at h <;> (try (subst h; rfl)) <;> (try (exact h.elim))
  · split at h
    · split at h
      · simp [Tr.Runs] at h
      · rename_i hb
        simp only [Tr.Runs] at h
        subst h
        simp [intOp, hb, toV]
    · simp only [Tr.Runs, bne_iff_ne, ne_eq] at h
      obtain ⟨hb, rfl⟩ := h
      simp [intOp, hb, toV]
  · split at h
    · split at h
      · simp [Tr.Runs] at h
      · rename_i hb
        simp only [Tr.Runs] at h
        subst h
        simp [intOp, hb, toV]
    · simp only [Tr.Runs, bne_iff_ne, ne_eq] at h
      obtain ⟨hb, rfl⟩ := h
      simp [intOp, hb, toV]

theorem shiftT_ok {op : BinOp} {k : IntKind} {a b : Int} {l : Bool} {y : SV U.Ty} (h : (shiftT op k a b l).Runs y) : (shiftOp op k a b).map V.lit = some (toV U y) := by
  unfold shiftT at h
  split at h
  · simp [Tr.Runs] at h
  · rename_i r hr
    have key : ∀ (hb : ¬ b < 0) (hy : SV.si k r = y), (shiftOp op k a b).map V.lit = some (toV U y) := by
      intro hb hy
      subst hy
      unfold shiftOp
      unfold shiftV at hr
      split at hr <;> simp_all [toV]
    split at h
    · split at h
      · simp [Tr.Runs] at h
      · rename_i hb
        exact key hb h
    · simp only [Tr.Runs, decide_eq_true_eq] at h
      exact key (by omega) h.2

theorem strT_ok {op : BinOp} {x y : ByteArray} {z : SV U.Ty} (h : (strT op x y).Runs z) : (strOp op x y).map V.lit = some (toV U z) := by
  unfold strT at h
  cases op <;> simp only [Tr.Runs] at h <;> (try (subst h; rfl)) <;> (try (exact h.elim))
  obtain ⟨hb, rfl⟩ := h
  simp only [decide_eq_true_eq] at hb
  simp [strOp, hb, toV]

theorem eqCellsS_ok : ∀ {ks : List FK} {xs ys : List (SV U.Ty)} {r : Bool}, eqCellsS ks xs ys = some r → eqCells ks (toVs U xs) (toVs U ys) = some r := by
  intro ks
  induction ks with
  | nil =>
    intro xs ys r h
    unfold eqCellsS at h
    split at h <;> simp_all [toVs, eqCells]
  | cons k ks ih =>
    intro xs ys r h
    cases xs with
    | nil => cases k <;> simp [eqCellsS] at h
    | cons x xs =>
      cases ys with
      | nil => cases k <;> simp [eqCellsS] at h
      | cons y ys =>
        cases k with
        | b =>
          simp only [eqCellsS] at h
          split at h
          · rename_i a b r' h1 h2 h3
            simp only [Option.some.injEq] at h
            subst h
            simp only [toVs, asBool_toV h1, asBool_toV h2, eqCells, ih h3]
          · cases h
        | i k =>
          simp only [eqCellsS] at h
          split at h
          · rename_i k1 a k2 b r' h1 h2 h3
            split at h
            · rename_i hk
              simp only [Option.some.injEq] at h
              subst h
              simp only [toVs, asInt_toV h1, asInt_toV h2, eqCells, ih h3, hk, and_self, if_true]
            · cases h
          · cases h
        | s =>
          simp only [eqCellsS] at h
          split at h
          · rename_i a b r' h1 h2 h3
            simp only [Option.some.injEq] at h
            subst h
            simp only [toVs, asStr_toV h1, asStr_toV h2, eqCells, ih h3]
          · cases h

theorem binT_ok {E : Env} {op : BinOp} {t : TypeId} {x y z : SV U.Ty} (h : (binT E op t x y).Runs z) : binD E op t (toV U x) (toV U y) = some (toV U z) := by
  unfold binT at h
  split at h
  · rename_i xs ys
    split at h
    · rename_i ks hks
      split at h
      · rename_i b hb
        have := eqCellsS_ok hb
        split at h
        · simp only [Tr.Runs] at h
          subst h
          simp only [toV, binD, hks, this, Option.map_some]
        · simp only [Tr.Runs] at h
          subst h
          simp only [toV, binD, hks, this, Option.map_some]
        · simp [Tr.Runs] at h
      · simp [Tr.Runs] at h
    · simp [Tr.Runs] at h
  · split at h
    · rename_i k a j b ha hb
      rw [asInt_toV ha, asInt_toV hb]
      split at h
      · exact shiftT_ok h
      · exact shiftT_ok h
      · rename_i h1 h2
        split at h
        · rename_i hk
          have hi := intT_ok h
          subst hk
          have hb : binD E op t (.lit (.int k a)) (.lit (.int k b)) = (intOp op k a b).map V.lit := by
            cases op <;> first | exact absurd rfl h1 | exact absurd rfl h2 | simp [binD]
          rw [hb]
          exact hi
        · simp [Tr.Runs] at h
    · split at h
      · rename_i a b ha hb
        rw [asStr_toV ha, asStr_toV hb]
        have := strT_ok h
        unfold binD
        split <;> simp_all
      · split at h
        · rename_i a b ha hb
          rw [asBool_toV ha, asBool_toV hb]
          split at h
          · rename_i hE
            split at h
            · simp only [Tr.Runs] at h
              subst h
              simp [binD, hE, toV]
            · simp only [Tr.Runs] at h
              subst h
              simp [binD, hE, toV]
            · simp [Tr.Runs] at h
          · simp [Tr.Runs] at h
        · simp [Tr.Runs] at h

theorem unT_ok {op : UnOp} {x z : SV U.Ty} (h : (unT op x).Runs z) : unD op (toV U x) = some (toV U z) := by
  unfold unT at h
  split at h
  · rename_i k n hk
    simp only [Tr.Runs] at h
    subst h
    rw [asInt_toV hk]
    rfl
  · rename_i k n hk
    simp only [Tr.Runs] at h
    subst h
    rw [asInt_toV hk]
    rfl
  · rename_i b _ hb
    simp only [Tr.Runs] at h
    subst h
    rw [asBool_toV hb]
    rfl
  · simp [Tr.Runs] at h

theorem mmT_ok {isMax : Bool} {k : IntKind} : ∀ {xs : List (SV U.Ty)} {a r : Int}, mmT isMax k a xs = some r → mm isMax k a (toVs U xs) = some (.lit (.int k r)) := by
  intro xs
  induction xs with
  | nil => intro a r h; simp only [mmT, Option.some.injEq] at h; subst h; rfl
  | cons x xs ih =>
    intro a r h
    simp only [mmT] at h
    split at h
    · rename_i j b hj
      split at h
      · rename_i hk
        simp only [toVs, asInt_toV hj, mm, hk, if_true]
        exact hk ▸ ih h
      · cases h
    · cases h

theorem minmaxT_ok {isMax : Bool} {xs : List (SV U.Ty)} {z : SV U.Ty} (h : (minmaxT isMax xs).Runs z) : minmax isMax (toVs U xs) = some (toV U z) := by
  unfold minmaxT at h
  split at h
  · rename_i x rest
    split at h
    · rename_i k a hk
      split at h
      · rename_i r hr
        simp only [Tr.Runs] at h
        subst h
        simp only [toVs, asInt_toV hk, minmax, toV]
        exact mmT_ok hr
      · simp [Tr.Runs] at h
    · simp [Tr.Runs] at h
  · simp [Tr.Runs] at h

/-! ### literals -/

def partsV (parts : List (Nat × SV U.Ty)) : List (Nat × V) := parts.map fun (i, x) => (i, toV U x)

theorem fillS_ok {place : Nat → Option (Nat × Nat)} : ∀ {parts : List (Nat × SV U.Ty)} {cs cs' : List (SV U.Ty)}, fillS cs parts place = some cs' → fillV (toVs U cs) (partsV parts) place = some (toVs U cs') := by
  intro parts
  induction parts with
  | nil => intro cs cs' h; simp only [fillS, Option.some.injEq] at h; subst h; rfl
  | cons p parts ih =>
    intro cs cs' h
    obtain ⟨i, v⟩ := p
    simp only [fillS] at h
    split at h
    · cases h
    · rename_i off size hp
      split at h
      · rename_i hc
        simp only [Bool.and_eq_true, beq_iff_eq, decide_eq_true_eq] at hc
        obtain ⟨⟨h1, h2⟩, h3⟩ := hc
        have := ih h
        simp only [partsV, List.map_cons, fillV, hp]
        rw [cells_toV h3, length_toVs, h1, length_toVs, okS_okV h3]
        simp only [beq_self_eq_true, h2, decide_true, Bool.and_self, if_true]
        rw [← this]
        simp only [partsV, toVs_map, List.map_append, List.map_take, List.map_drop]
      · cases h

theorem cells_toV' {x : SV U.Ty} (h : ∀ cs, x ≠ .raw (.agg cs)) : (toV U x).cells = toVs U (cellsS x) := by
  cases x with
  | raw v =>
    cases v with
    | agg cs => exact absurd rfl (h cs)
    | _ => rfl
  | _ => rfl

theorem ofV_cells {z : V} : toVs U (cellsS (ofV U z)) = z.cells := by
  have hr : ∀ cs, ofV U z ≠ .raw (.agg cs) := by
    intro cs hcs
    unfold ofV at hcs
    split at hcs
    · cases hcs
    · rename_i hne
      unfold ofV1 at hcs
      split at hcs <;> (try cases hcs)
      simp at hne
  rw [← cells_toV' hr, toV_ofV]

theorem buildT_ok {E : Env} {t : TypeId} {parts : List (Nat × SV U.Ty)} {y : SV U.Ty} (h : buildT E t parts = some y) : buildD E t (partsV parts) = some (toV U y) := by
  unfold buildT at h
  unfold buildD
  split at h
  · rename_i i hi
    rw [hi]
    split at h
    · rename_i z hz
      simp only [hz]
      split at h
      · rename_i hok
        rw [if_pos hok]
        split at h
        · rename_i fs hty
          simp only [hty]
          split at h
          · rename_i hall
            rw [if_pos hall]
            cases hf : fillS (cellsS (ofV U z)) parts (placesOf E fs) with
            | none => simp [hf] at h
            | some cs =>
              simp only [hf, Option.map_some, Option.some.injEq] at h
              subst h
              have := fillS_ok hf
              rw [ofV_cells] at this
              simp only [this, Option.map_some, toV]
          · cases h
        · rename_i len e hty
          simp only [hty]
          split at h
          · rename_i ei hei
            simp only [hei]
            cases hf : fillS (cellsS (ofV U z)) parts (fun i => some (i * ei.size, ei.size)) with
            | none => simp [hf] at h
            | some cs =>
              simp only [hf, Option.map_some, Option.some.injEq] at h
              subst h
              have := fillS_ok hf
              rw [ofV_cells] at this
              simp only [this, Option.map_some, toV]
          · cases h
        · cases h
      · cases h
    · cases h
  · cases h

theorem decAll_ok {E : Env} (hU : UnivOK U E) {e : Nat} : ∀ {vs : List (SV U.Ty)} {ys : List (U.Ty e)}, decAll e vs = some ys → (toVs U vs).map (retype (E.rows e)) = ys.map (U.enc e) ∧ ∀ v ∈ vs, okS v = true := by
  intro vs
  induction vs with
  | nil => intro ys h; simp only [decAll, Option.some.injEq] at h; subst h; simp [toVs]
  | cons v vs ih =>
    intro ys h
    simp only [decAll] at h
    split at h
    · rename_i a as h1 h2 h3
      simp only [Option.some.injEq] at h
      subst h
      obtain ⟨i1, i2⟩ := ih h3
      refine ⟨by simp only [toVs, List.map_cons, i1, hU.dec _ _ _ h2], ?_⟩
      intro x hx
      rcases List.mem_cons.1 hx with hx | hx
      · rw [hx]; exact h1
      · exact i2 x hx
    · cases h

theorem fillE_full (sz : Nat) : ∀ (vs pre post : List V), (∀ v ∈ vs, v.cells.length = sz ∧ okV v = true) → vs.length ≤ post.length →
    fillE (pre ++ post) sz ((List.range' pre.length vs.length).zip vs) = some (pre ++ vs ++ post.drop vs.length) := by
  intro vs
  induction vs with
  | nil => intro pre post _ _; simp [fillE]
  | cons v vs ih =>
    intro pre post h hl
    cases post with
    | nil => simp at hl
    | cons p post =>
      simp only [List.length_cons, List.range'_succ, List.zip_cons_cons, fillE]
      obtain ⟨h1, h2⟩ := h v (by simp)
      have hset : (pre ++ p :: post).set pre.length v = (pre ++ [v]) ++ post := by simp
      have := ih (pre ++ [v]) post (fun x hx => h x (by simp [hx])) (by simpa using hl)
      rw [List.length_append, List.length_singleton] at this
      rw [h1, h2, hset, this]
      simp

theorem buildSliceT_ok {E : Env} (hU : UnivOK U E) {k : Nat} {H H' : SHeap U} {t : TypeId} {n : Nat} {parts : List (Nat × SV U.Ty)} {y : SV U.Ty} (h : (buildSliceT E k H t n parts).Runs (y, H')) :
    buildSliceD E k (toH U H) t n (partsV parts) = some (toV U y, toH U H') := by
  unfold buildSliceT at h
  unfold buildSliceD
  split at h
  · rename_i e sz by' z0 hti
    rw [hti]
    simp only
    split at h
    · rename_i ei hei
      simp only [hei]
      split at h
      · rename_i z hz
        simp only [runs_andThen] at h
        obtain ⟨vs, hvs, h⟩ := h
        split at h
        · rename_i ys hys
          simp only [runs_when, Tr.Runs, Prod.mk.injEq] at h
          obtain ⟨⟨⟨c1, c2, c3, c4⟩, c5, c6, c7⟩, rfl, rfl⟩ := h
          have hp2 : (partsV parts).map (·.2) = toVs U (parts.map (·.2)) := by
            rw [toVs_map]; simp [partsV]
          have hp1 : (partsV parts).map (·.1) = List.range n := by rw [← c5]; simp [partsV]
          obtain ⟨d1, d2⟩ := decAll_ok hU hys
          have hf := frzAllS_ok hvs
          have hlen : (toVs U vs).length = n := by
            rw [← frzAll_length hf, length_toVs, List.length_map, ← List.length_map (f := (·.1)) (as := parts), c5, List.length_range]
          have hlen' : (ys.map (U.enc e)).length = n := by rw [← d1, List.length_map, hlen]
          have hempty : (n == 0 && !(partsV parts).isEmpty) = false := by
            cases hn : n with
            | zero =>
              have : parts = [] := by
                have := congrArg List.length c5
                rw [hn] at this
                simpa using this
              simp [this, partsV]
            | succ m => simp
          rw [hz, hp2, hf]
          simp only
          rw [if_pos ⟨c1, c2, c3, c4, hempty⟩, hp1, d1]
          have hfull := fillE_full ei.size (ys.map (U.enc e)) [] (List.replicate n (retype (E.rows e) z)) (by
            intro v hv
            rw [← d1] at hv
            obtain ⟨w, hw, rfl⟩ := List.mem_map.1 hv
            rw [toVs_map] at hw
            obtain ⟨s, hs, rfl⟩ := List.mem_map.1 hw
            have hok := d2 s hs
            rw [retype_ok, retype_len]
            refine ⟨?_, okS_okV hok⟩
            rw [cells_toV hok, length_toVs]
            simpa using List.all_eq_true.1 c6 s hs) (by rw [hlen']; simp)
          rw [hlen'] at hfull
          simp only [List.length_nil, List.nil_append] at hfull
          rw [show List.range n = List.range' 0 n from List.range_eq_range' .., hfull]
          have hdrop : List.drop n (List.replicate n (retype (E.rows e) z)) = [] := by simp
          rw [hdrop, List.append_nil, toH_place, idsAs_toV, bumpS_ok H _ (frzAllS_rows hvs)]
          simp [toV, toBox, newBox, c7]
        · simp [Tr.Runs] at h
      · simp [Tr.Runs] at h
    · simp [Tr.Runs] at h
  · simp [Tr.Runs] at h

/-! ### fields, indexes -/

theorem fieldAddrT_ok {E : Env} {s : TypeId} {x y : SV U.Ty} {f : Nat} (h : fieldAddrT E s x f = some y) : fieldAddrD E s (toV U x) f = some (toV U y) := by
  unfold fieldAddrT at h
  unfold fieldAddrD
  split at h
  · rename_i fs sz by' z0 hti
    rw [hti]
    simp only
    split at h
    · rename_i o t ho
      rw [ho]
      simp only
      split at h
      · rename_i n hn
        simp only [hn]
        split at h
        · cases h
        · rename_i hz
          rw [if_neg hz]
          split at h
          · simp only [Option.some.injEq] at h; subst h; rfl
          · simp only [Option.some.injEq] at h; subst h; rfl
          · simp only [Option.some.injEq] at h; subst h; rfl
          · cases h
      · cases h
    · cases h
  · cases h

theorem fieldT_ok {E : Env} {s : TypeId} {x y : SV U.Ty} {f : Nat} (h : fieldT E s x f = some y) : fieldD E s (toV U x) f = some (toV U y) := by
  unfold fieldT at h
  unfold fieldD
  split at h
  · rename_i fs sz by' z0 cs hti
    rw [hti]
    simp only [toV]
    split at h
    · rename_i o t ho
      rw [ho]
      simp only
      split at h
      · rename_i i hi
        simp only [hi, partS_ok, h, Option.map_some]
      · cases h
    · cases h
  · cases h

theorem pickIdx_runs {L : Type} {n : Int} {lit : Bool} {len : Nat} {k : Nat → Tr U L} {y : L} (h : (pickIdx n lit len k).Runs y) : (0 ≤ n ∧ n < len) ∧ (k n.toNat).Runs y := by
  unfold pickIdx at h
  split at h
  · split at h
    · rename_i hn; exact ⟨hn, h⟩
    · simp [Tr.Runs] at h
  · revert h
    suffices hh : ∀ l : List Nat, (∀ i ∈ l, i < len) → (l.foldr (fun (i : Nat) rest => Tr.br (n == (i : Int)) (k i) rest) .fail).Runs y → (0 ≤ n ∧ n < len) ∧ (k n.toNat).Runs y from
      fun h => hh _ (fun i hi => by simpa using hi) h
    intro l
    induction l with
    | nil => intro _ h; simp [Tr.Runs] at h
    | cons i l ih =>
      intro hl h
      simp only [List.foldr_cons, Tr.Runs, beq_iff_eq] at h
      rcases h with ⟨hn, hr⟩ | ⟨_, hr⟩
      · have := hl i (by simp)
        have hi : n.toNat = i := by omega
        rw [hi]
        exact ⟨by omega, hr⟩
      · exact ih (fun j hj => hl j (by simp [hj])) hr

theorem indexAddrT_ok {E : Env} {H : SHeap U} {t : TypeId} {x i y : SV U.Ty} (h : (indexAddrT E H t x i).Runs y) : indexAddrD E (toH U H) t (toV U x) (toV U i) = some (toV U y) := by
  unfold indexAddrT at h
  unfold indexAddrD
  split at h
  · rename_i kk n ti hn hti
    rw [asInt_toV hn, hti]
    simp only
    split at h
    · rename_i el hty
      simp only [hty]
      split at h
      · rename_i et xs
        simp only [runs_when, Tr.Runs, decide_eq_true_eq] at h
        obtain ⟨h1, h2, rfl⟩ := h
        simp only [toV, List.length_map, h2, h1, and_self, if_true]
      · rename_i et xs
        simp only [runs_when, Tr.Runs, decide_eq_true_eq] at h
        obtain ⟨h1, h2, rfl⟩ := h
        simp only [toV, List.length_map, h2, h1, and_self, if_true]
      · rename_i id m
        obtain ⟨et, xs, fl, r1, r2, r3, r4⟩ := rowAt_runs h
        simp only [runs_when, Tr.Runs, decide_eq_true_eq] at r3
        obtain ⟨h1, h2, rfl⟩ := r3
        simp only [toV, r4, toBox, h2, h1, and_self, if_true, Nat.zero_add]
      · rename_i id off len tot
        obtain ⟨et, xs, fl, r1, r2, r3, r4⟩ := rowAt_runs h
        simp only [runs_when, Tr.Runs, decide_eq_true_eq] at r3
        obtain ⟨h1, h2, rfl⟩ := r3
        simp only [toV, r4, toBox, h2, h1, and_self, if_true]
      · simp [Tr.Runs] at h
    · rename_i len e hty
      simp only [hty]
      split at h
      · simp [Tr.Runs] at h
      · rename_i sz hsz
        split at h
        · obtain ⟨hb, h⟩ := pickIdx_runs h
          simp only [Tr.Runs] at h
          subst h
          simp only [toV, hsz, hb, and_self, if_true]
        · obtain ⟨hb, h⟩ := pickIdx_runs h
          simp only [Tr.Runs] at h
          subst h
          simp only [toV, hsz, hb, and_self, if_true]
        · obtain ⟨hb, h⟩ := pickIdx_runs h
          simp only [Tr.Runs] at h
          subst h
          simp only [toV, hsz, hb, and_self, if_true]
        · simp [Tr.Runs] at h
    · simp [Tr.Runs] at h
  · simp [Tr.Runs] at h

theorem get_bang {s : ByteArray} {n : Nat} (h : n < s.size) : s[n]? = some (s.get! n) := by
  rw [getElem?_pos s n h]
  cases s with
  | mk d => 
    have hd : n < d.size := h
    show some d[n] = some d[n]!
    rw [getElem!_pos d n hd]

theorem indexT_ok {E : Env} {t : TypeId} {x i y : SV U.Ty} (h : (indexT E t x i).Runs y) : indexD E t (toV U x) (toV U i) = some (toV U y) := by
  unfold indexT at h
  unfold indexD
  split at h
  · rename_i kk n hn
    rw [asInt_toV hn]
    simp only
    split at h
    · rename_i len e sz by' z0 cs hti
      rw [hti]
      simp only [toV]
      split at h
      · rename_i ei hei
        obtain ⟨hb, h⟩ := pickIdx_runs h
        rw [runs_opt] at h
        simp only [hei, hb, and_self, if_true, partS_ok, h, Option.map_some]
      · simp [Tr.Runs] at h
    · rename_i sz by' z0 hti
      rw [hti]
      split at h
      · rename_i s hs
        rw [asStr_toV hs]
        split at h
        · rename_i hE
          simp only [Tr.Runs, decide_eq_true_eq] at h
          obtain ⟨⟨h1, h2⟩, rfl⟩ := h
          have hlt : n.toNat < s.size := by omega
          simp only [hE, h1, if_true, get_bang hlt, Option.map_some, toV]
        · simp [Tr.Runs] at h
      · simp [Tr.Runs] at h
    · simp [Tr.Runs] at h
  · simp [Tr.Runs] at h

theorem convB_runs {t : Nat} {xs : List (U.Ty t)} {y : SV U.Ty} (h : (convB t xs).Runs y) :
    U.esz t = 1 ∧ ∃ bs, bytesOf (xs.map (U.enc t)) = some bs ∧ bs.length ≤ maxLen ∧ y = .ss ⟨bs.toArray⟩ := by
  unfold convB at h
  simp only [runs_when, Tr.Runs] at h
  obtain ⟨h1, h2, h3⟩ := h
  refine ⟨h1, ?_⟩
  unfold okBytes at h2
  unfold strOf at h3
  split at h2
  · rename_i bs hbs
    refine ⟨bs, hbs, by simpa using h2, ?_⟩
    rw [← h3, hbs]
    rfl
  · cases h2

theorem convBT_ok {E : Env} {H : SHeap U} {src dst : TypeId} {x y : SV U.Ty} (h : (convBT E H src dst x).Runs y) : convD E (toH U H) src dst (toV U x) = some (toV U y, toH U H) := by
  unfold convBT at h
  simp only [runs_when] at h
  obtain ⟨hb, h⟩ := h
  simp only [Bool.and_eq_true] at hb
  split at h
  · simp only [Tr.Runs] at h
    subst h
    simp [convD, toV, hb, eszIs, elemsOf, bytesOf]
  · obtain ⟨h1, bs, h2, h3, rfl⟩ := convB_runs h
    simp [convD, toV, hb, eszIs, elemsOf, h1, h2, h3]
  · obtain ⟨h1, bs, h2, h3, rfl⟩ := convB_runs h
    simp [convD, toV, hb, eszIs, elemsOf, h1, h2, h3]
  · obtain ⟨t, xs, fl, h1, h2, h3, h4⟩ := rowAt_runs h
    obtain ⟨h5, bs, h6, h7, rfl⟩ := convB_runs h3
    subst h2
    rename_i id
    have he : elemsOf (toH U H) (toV U (.all id xs.length)) = some (xs.map (U.enc t)) := by
      simp only [toV, elemsOf, h4]
      simp only [toBox, Nat.zero_add, Nat.le_refl, decide_true, Bool.and_self, if_true, List.drop_zero, Option.some.injEq]
      exact List.take_of_length_le (by simp)
    simp only [toV] at he
    simp only [convD, toV, hb, he, eszIs, h4, toBox, h5, Bool.and_self, beq_self_eq_true, if_true, h6, if_pos h7]
  · obtain ⟨t, xs, fl, h1, h2, h3, h4⟩ := rowAt_runs h
    simp only [Tr.Runs, decide_eq_true_eq] at h3
    obtain ⟨hle, h3⟩ := h3
    obtain ⟨h5, bs, h6, h7, rfl⟩ := convB_runs h3
    rename_i id off len tot
    have he : elemsOf (toH U H) (toV U (.lsl id off len tot)) = some ((((xs.drop off).take len)).map (U.enc t)) := by
      simp only [toV, elemsOf, h4]
      simp [toBox, hle, List.map_take, List.map_drop]
    simp only [toV] at he
    simp only [convD, toV, hb, he, eszIs, h4, toBox, h5, Bool.and_self, beq_self_eq_true, if_true, h6, if_pos h7]
  · simp [Tr.Runs] at h

theorem convT_ok {E : Env} {H : SHeap U} {src dst : TypeId} {x y : SV U.Ty} (h : (convT E H src dst x).Runs y) : convD E (toH U H) src dst (toV U x) = some (toV U y, toH U H) := by
  unfold convT at h
  split at h
  · rename_i k n hn
    rw [asInt_toV hn]
    unfold convD
    split at h
    · rename_i j hj
      simp only [hj]
      split at h
      · rename_i hs
        simp only [Tr.Runs] at h
        subst h
        simp [hs, toV]
      · simp [Tr.Runs] at h
    · simp [Tr.Runs] at h
  · split at h
    · rename_i s hs
      rw [asStr_toV hs]
      unfold convD
      split at h
      · rename_i hb
        simp only [Tr.Runs] at h
        subst h
        simp only [Bool.and_eq_true] at hb
        simp [hb, toV]
      · simp [Tr.Runs] at h
    · exact convBT_ok h

end

end Go.Proofs.YtkepnndakhpgoaaGreatDoor.Le

/-
  Symbolic values stand for values: slices, calls, operations, regions.
-/
namespace Go.Proofs.YtkepnndakhpgoaaGreatDoor.Le
set_option linter.unusedVariables false
set_option linter.unusedSimpArgs false

section
variable {U : Univ}

theorem elemsT_ok {H : SHeap U} {x : SV U.Ty} {e : Nat} {ys : List (U.Ty e)} (h : (elemsT H x e).Runs ys) :
    elemsOf (toH U H) (toV U x) = some (ys.map (U.enc e)) ∧ (eszIs (toH U H) (toV U x) (U.esz e) = true) := by
  have go : ∀ (t : Nat) (xs : List (U.Ty t)), (if h : t = e then Tr.leaf (h ▸ xs) else Tr.fail : Tr U (List (U.Ty e))).Runs ys → ∃ he : t = e, (he ▸ xs : List (U.Ty e)) = ys := by
    intro t xs h
    split at h
    · rename_i he; exact ⟨he, h⟩
    · simp [Tr.Runs] at h
  unfold elemsT at h
  simp only at h
  split at h
  · simp only [Tr.Runs] at h; subst h; exact ⟨rfl, rfl⟩
  · obtain ⟨rfl, rfl⟩ := go _ _ h
    exact ⟨rfl, by simp [toV, eszIs]⟩
  · obtain ⟨rfl, rfl⟩ := go _ _ h
    exact ⟨rfl, by simp [toV, eszIs]⟩
  · obtain ⟨t, xs, fl, h1, h2, h3, h4⟩ := rowAt_runs h
    obtain ⟨rfl, rfl⟩ := go _ _ h3
    subst h2
    refine ⟨?_, by simp [toV, eszIs, h4, toBox]⟩
    simp only [toV, elemsOf, h4]
    simp only [toBox, Nat.zero_add, Nat.le_refl, decide_true, Bool.and_self, if_true, List.drop_zero, Option.some.injEq]
    exact List.take_of_length_le (by simp)
  · obtain ⟨t, xs, fl, h1, h2, h3, h4⟩ := rowAt_runs h
    simp only [Tr.Runs, decide_eq_true_eq] at h3
    obtain ⟨hle, h3⟩ := h3
    obtain ⟨rfl, rfl⟩ := go _ _ h3
    refine ⟨?_, by simp [toV, eszIs, h4, toBox]⟩
    simp only [toV, elemsOf, h4]
    simp [toBox, hle, List.map_take, List.map_drop]
  · simp [Tr.Runs] at h

theorem appendT_ok {E : Env} {k : Nat} {H H' : SHeap U} {t u : TypeId} {s x y : SV U.Ty} (h : (appendT E k H t u s x).Runs (y, H')) :
    appendD E k (toH U H) t u (toV U s) (toV U x) = some (toV U y, toH U H') := by
  unfold appendT at h
  unfold appendD
  split at h
  · rename_i e sz by' z0 hti
    rw [hti]
    simp only
    split at h
    · rename_i ei hei
      simp only [runs_when, runs_andThen] at h
      obtain ⟨⟨rfl, hpos, hz, hes⟩, ys, hys, h⟩ := h
      obtain ⟨e1, e2⟩ := elemsT_ok hys
      rw [hes] at e2
      simp only [hei, beq_self_eq_true, e1]
      rw [if_pos (by simp [hpos, e2, hz])]
      split at h
      · rename_i id n
        obtain ⟨t', xs, fl, h1, h2, h3, h4⟩ := rowAt_runs h
        split at h3
        · rename_i he
          subst he
          simp only [Tr.Runs, Bool.and_eq_true, decide_eq_true_eq, Prod.mk.injEq] at h3
          obtain ⟨⟨l1, l2⟩, rfl, rfl⟩ := h3
          subst h2
          simp only [toV, h4, List.length_map]
          simp only [toBox, hes, beq_self_eq_true, decide_true, Bool.and_self, if_true, l1, l2, Option.some.injEq, Prod.mk.injEq]
          refine ⟨by simp [toV], ?_⟩
          rw [toH_set]
          simp [toBox, hes]
        · simp [Tr.Runs] at h3
      · simp only [Tr.Runs, Bool.and_eq_true, decide_eq_true_eq, Prod.mk.injEq] at h
        obtain ⟨⟨l1, l2⟩, rfl, rfl⟩ := h
        simp only [toV, List.length_map, l1, l2, decide_true, Bool.and_self, if_true, Option.some.injEq, Prod.mk.injEq, true_and]
        rw [toH_place]
        simp [toBox, newBox, hes]
      · rename_i t' xs
        split at h
        · rename_i he
          subst he
          simp only [Tr.Runs, Bool.and_eq_true, decide_eq_true_eq, Prod.mk.injEq] at h
          obtain ⟨⟨l1, l2⟩, h⟩ := h
          simp only [toV, List.length_map, hes, beq_self_eq_true, l1, l2, decide_true, Bool.and_self, if_true]
          rcases h with ⟨hem, rfl, rfl⟩ | ⟨hem, rfl, rfl⟩
          · simp [hem, toV, hes]
          · simp only [List.isEmpty_map, hem, Bool.false_eq_true, if_false, Option.some.injEq, Prod.mk.injEq]
            refine ⟨by simp [toV], ?_⟩
            rw [toH_place]
            simp [toBox, newBox, hes]
        · simp [Tr.Runs] at h
      · simp [Tr.Runs] at h
    · simp [Tr.Runs] at h
  · simp [Tr.Runs] at h

theorem convST_ok {E : Env} (hU : UnivOK U E) {k : Nat} {H H' : SHeap U} {dst : TypeId} {x y : SV U.Ty} (h : (convST E k H dst x).Runs (y, H')) : convS E k (toH U H) dst (toV U x) = some (toV U y, toH U H') := by
  unfold convST at h
  split at h
  · rename_i st e sz by' z0 hs hti
    simp only [runs_when, Tr.Runs, Prod.mk.injEq] at h
    obtain ⟨⟨h1, h2⟩, hok, rfl, rfl⟩ := h
    have key : ∀ l : List UInt8, (l.all fun b => (U.decS e (.si .u8 b.toNat)).isSome) = true → (l.filterMap fun b => U.decS e (.si .u8 b.toNat)).map (U.enc e) = l.map fun c => V.lit (.int .u8 c.toNat) := by
      intro l
      induction l with
      | nil => intro _; rfl
      | cons b l ih =>
        intro hl
        simp only [List.all_cons, Bool.and_eq_true] at hl
        cases hd : U.decS e (.si .u8 b.toNat) with
        | none => rw [hd] at hl; cases hl.1
        | some a =>
          have := hU.dec _ _ _ hd
          simp only [toV, retype, retype1] at this
          rw [List.filterMap_cons, hd]
          simp only [List.map_cons, ih hl.2, this]
    have hmap : (strBytes U e st).map (U.enc e) = bytesV st := key _ hok
    have hlen : (strBytes U e st).length = st.size := by
      have := congrArg List.length hmap
      rw [List.length_map] at this
      rw [this]
      simp only [bytesV, List.length_map]
      exact Array.length_toList
    rw [asStr_toV hs]
    simp only [convS, hti, h1, if_true, toV, hlen, Option.some.injEq, Prod.mk.injEq, true_and]
    rw [toH_place]
    simp [toBox, newBox, h2, hmap]
  · simp [Tr.Runs] at h

theorem scal_toV {x : SV U.Ty} {v : Value} (h : scal x = some v) : toV U x = .lit v := by
  unfold scal at h
  split at h <;> simp_all [toV]

theorem getsT_ok {E : Env} {L : Type} (hU : UnivOK U E) {t : Nat} {xs : List (U.Ty t)} {r : L} : ∀ {n i : Nat} {k : List Value → Tr U L}, (getsT xs i n k).Runs r → ∃ vs, ((xs.drop i).take n).map (U.enc t) = vs.map V.lit ∧ vs.length = n ∧ (k vs).Runs r := by
  intro n
  induction n with
  | zero => intro i k h; exact ⟨[], by simp, rfl, h⟩
  | succ n ih =>
    intro i k h
    simp only [getsT, Tr.Runs] at h
    obtain ⟨x, hx, h⟩ := h
    split at h
    · rename_i v hv
      obtain ⟨vs, h1, h2, h3⟩ := ih h
      obtain ⟨hi, hx'⟩ := List.getElem?_eq_some_iff.1 hx
      refine ⟨v :: vs, ?_, by simp [h2], h3⟩
      rw [List.drop_eq_getElem_cons hi, List.take_succ_cons, List.map_cons, List.map_cons, h1, hx', ← hU.encS, scal_toV hv]
    · simp [Tr.Runs] at h

theorem arrT_ok {E : Env} (hU : UnivOK U E) {t : TypeId} {x y : SV U.Ty} (h : (arrT E t x).Runs y) : arrA E t (toV U x) = some (toV U y) := by
  unfold arrT at h
  split at h
  · rename_i n e sz by' z0 t' xs hti
    simp only [runs_when] at h
    obtain ⟨⟨c1, c2, c3⟩, h⟩ := h
    obtain ⟨vs, h1, h2, h3⟩ := getsT_ok hU h
    simp only [Tr.Runs] at h3
    subst h3
    rw [List.drop_zero] at h1
    unfold arrA
    have hlen : n ≤ xs.length := by
      have := congrArg List.length h1
      simp only [List.length_map, List.length_take] at this
      omega
    have htk : (xs.map (U.enc t')).take n = vs.map V.lit := by rw [← List.map_take, h1]
    have hall : (vs.map V.lit).all isLitV = true := by simp [List.all_eq_true, isLitV]
    simp only [hti, toV, c1, c2, c3, htk, List.length_map, hlen, hall, and_self, if_true]
  · simp [Tr.Runs] at h

theorem optBoundS_ok {hi : Option (SV U.Ty)} {n m : Nat} (h : optBoundS hi n = some m) : optBound (hi.map (toV U)) n n = some m := by
  unfold optBoundS at h
  split at h
  · simpa [optBound] using h
  · simpa [optBound, boundD, toV] using h
  · cases h

theorem sliceAT_ok {E : Env} (hU : UnivOK U E) {H H' : SHeap U} {n e : Nat} {x y : SV U.Ty} {lo hi mx : Option (SV U.Ty)} (h : (sliceAT E H n e x lo hi mx).Runs (y, H')) :
    sliceA E (toH U H) n e (toV U x) (lo.map (toV U)) (hi.map (toV U)) (mx.map (toV U)) = some (toV U y, toH U H') := by
  unfold sliceAT at h
  split at h
  · rename_i id i off tot m hm
    split at h
    · rename_i e' k cs hb
      split at h
      · rename_i ys hys
        simp only [runs_when, Tr.Runs, Prod.mk.injEq] at h
        obtain ⟨⟨⟨rfl, rfl, rfl, c4, c5⟩, c6, c7, c8⟩, rfl, rfl⟩ := h
        obtain ⟨d1, d2⟩ := decAll_ok hU hys
        have hsc : ∀ c ∈ cs, ∃ v, toV U c = .lit v := fun c hc => by
          have := List.all_eq_true.1 c8 c hc
          obtain ⟨v, hv⟩ := Option.isSome_iff_exists.1 this
          exact ⟨v, scal_toV hv⟩
        have hre : (toVs U cs).map (retype (E.rows e)) = toVs U cs := by
          rw [toVs_map, List.map_map]
          apply List.map_congr_left
          intro c hc
          obtain ⟨v, hv⟩ := hsc c hc
          simp only [Function.comp, hv, retype, retype1]
        rw [hre] at d1
        have hall : (toVs U cs).all isLitV = true := by
          rw [toVs_map, List.all_eq_true]
          intro y hy
          obtain ⟨c, hc, rfl⟩ := List.mem_map.1 hy
          obtain ⟨v, hv⟩ := hsc c hc
          rw [hv]; rfl
        have hlen : (toVs U cs).length = n := by rw [toVs_map, List.length_map, c4]
        have hbx := boxAt_var hb
        unfold sliceA
        simp only [toV, Option.map_none, optBoundS_ok hm, hbx, newBox]
        rw [if_pos ⟨trivial, trivial, hlen, c5, c6, hall⟩]
        simp only [Option.some.injEq, Prod.mk.injEq, c7, List.map_take, d1, true_and]
        rw [toH_set]
        simp only [bump]
        apply List.ext_getElem?
        intro j
        rw [List.getElem?_modify, List.getElem?_set]
        by_cases hj : id = j
        · subst hj
          have hlt : id < H.length := (List.getElem?_eq_some_iff.1 hb).1
          rw [toH_get, hb]
          simp [toBox, newBox, toV, toH_length, hlt]
        · simp [hj]
      · simp [Tr.Runs] at h
    · simp [Tr.Runs] at h
  · simp [Tr.Runs] at h

theorem copyT_ok {E : Env} {H H' : SHeap U} {t u : TypeId} {d x y : SV U.Ty} (h : (copyT E H t u d x).Runs (y, H')) :
    copyD E (toH U H) t u (toV U d) (toV U x) = some (toV U y, toH U H') := by
  unfold copyT at h
  unfold copyD
  split at h
  · rename_i e sz by' z0 hti
    rw [hti]
    simp only
    split at h
    · rename_i ei hei
      simp only [runs_when, runs_andThen] at h
      obtain ⟨hes, ys, hys, h⟩ := h
      obtain ⟨e1, e2⟩ := elemsT_ok hys
      rw [hes] at e2
      simp only [hei, e1]
      split at h
      · rename_i id n
        obtain ⟨t', xs, fl, h1, h2, h3, h4⟩ := rowAt_runs h
        split at h3
        · rename_i he
          subst he
          simp only [runs_when, Tr.Runs, Prod.mk.injEq] at h3
          obtain ⟨hfl, rfl, rfl⟩ := h3
          subst h2
          simp only [toV, h4]
          simp only [toBox, hes, hfl, beq_self_eq_true, decide_true, Bool.and_self, e2, if_true, Option.some.injEq, Prod.mk.injEq, List.length_map]
          refine ⟨by simp [toV], ?_⟩
          rw [toH_set]
          simp [toBox, hes, hfl, List.map_take, List.map_drop]
        · simp [Tr.Runs] at h3
      · simp [Tr.Runs] at h
    · simp [Tr.Runs] at h
  · simp [Tr.Runs] at h

theorem lenAt_ok {L : Type} {H : SHeap U} {x : SV U.Ty} {k : Nat → Tr U L} {y : L} (h : (lenAt H x k).Runs y) : ∃ n, lenOf (toH U H) (toV U x) = some n ∧ (k n).Runs y := by
  unfold lenAt at h
  split at h
  · rename_i id n
    obtain ⟨t, xs, fl, h1, h2, h3, h4⟩ := rowAt_runs h
    exact ⟨n, by simp [toV, lenOf, h4], h3⟩
  · rename_i id off len tot
    obtain ⟨t, xs, fl, h1, h2, h3, h4⟩ := rowAt_runs h
    exact ⟨len, by simp [toV, lenOf, h4], h3⟩
  · split at h
    · rename_i n hn
      refine ⟨n, ?_, h⟩
      unfold lenT at hn
      split at hn <;> simp_all [toV, lenOf]
    · simp [Tr.Runs] at h

theorem lenAt_raw {L : Type} {H : SHeap U} {x : SV U.Ty} {k : Nat → Tr U L} {y : L} (h : (lenAt H x k).Runs y) : ∀ v, x ≠ .raw v := by
  rintro v rfl
  simp [lenAt, lenT, Tr.Runs] at h

theorem str_no {x : SV U.Ty} (hx : ∀ v, x ≠ .raw v) (h : isStrS x = false) : ∀ s, toV U x ≠ .lit (.string s) := by
  intro s hs
  unfold isStrS at h
  cases x with
  | raw v => exact hx v rfl
  | lit v => simp only [toV, V.lit.injEq] at hs; subst hs; simp [asStr] at h
  | ss b => simp [asStr] at h
  | _ => simp [toV] at hs

theorem str_yes {x : SV U.Ty} (h : isStrS x = true) : ∃ s, asStr x = some s ∧ toV U x = .lit (.string s) := by
  unfold isStrS at h
  cases hs : asStr x with
  | none => simp [hs] at h
  | some s => exact ⟨s, rfl, asStr_toV hs⟩

theorem lenFits_ok {E : Env} {t : TypeId} {x : SV U.Ty} (hx : ∀ v, x ≠ .raw v) : lenFits E t (toV U x) = lenFitsS E t x := by
  unfold lenFits lenFitsS
  by_cases hs : isStrS x = true
  · obtain ⟨s, _, h⟩ := str_yes hs
    rw [h, if_pos hs]
  · rw [if_neg hs]
    have := str_no hx (by simpa using hs)
    split
    · rename_i s h; exact absurd h (this s)
    · rfl

theorem eszIsS_ok {E : Env} {H : SHeap U} {x : SV U.Ty} {n : Nat} {L : Type} {k : Nat → Tr U L} {y : L} (hl : (lenAt H x k).Runs y) (h : eszIsS E H x n = true) : eszIs (toH U H) (toV U x) n = true := by
  unfold eszIsS at h
  split at h
  · simp [toV, eszIs]
  · simpa [toV, eszIs] using h
  · simpa [toV, eszIs] using h
  · rename_i id m
    unfold lenAt at hl
    obtain ⟨t, xs, fl, h1, h2, h3, h4⟩ := rowAt_runs hl
    simp only [h1] at h
    simpa [toV, eszIs, h4, toBox] using h
  · rename_i id off len tot
    unfold lenAt at hl
    obtain ⟨t, xs, fl, h1, h2, h3, h4⟩ := rowAt_runs hl
    simp only [h1] at h
    simpa [toV, eszIs, h4, toBox] using h
  · cases h

theorem sliceFits_ok {E : Env} {H : SHeap U} {t : TypeId} {x : SV U.Ty} {L : Type} {k : Nat → Tr U L} {y : L} (hl : (lenAt H x k).Runs y) (h : sliceFitsS E H t x = true) : sliceFits E (toH U H) t (toV U x) = true := by
  have hx := lenAt_raw hl
  unfold sliceFitsS at h
  unfold sliceFits
  split at h
  · rename_i hs
    obtain ⟨s, _, he⟩ := str_yes hs
    rw [he]
    exact h
  · rename_i hs
    have hno := str_no hx (by simpa using hs)
    split
    · rename_i s he; exact absurd he (hno s)
    · split at h
      · rename_i e _ _ _ hti
        split at h
        · rename_i ei hei
          simp only [hti, hei]
          exact eszIsS_ok hl h
        · cases h
      · cases h

theorem boundT_ok {L : Type} {x : Option (SV U.Ty)} {hi d : Nat} {k : Nat → Tr U L} {y : L} (h : (boundT x hi d k).Runs y) : ∃ n, optBound (x.map (toV U)) hi d = some n ∧ (k n).Runs y := by
  unfold boundT at h
  split at h
  · exact ⟨d, rfl, h⟩
  · rename_i v
    split at h
    · rename_i kk n hn
      simp only [Tr.Runs, decide_eq_true_eq] at h
      refine ⟨n.toNat, ?_, h.2⟩
      simp [optBound, asInt_toV hn, boundD, h.1]
    · simp [Tr.Runs] at h

theorem sliceT_ok {E : Env} {H H' : SHeap U} {t : TypeId} {x y : SV U.Ty} {lo hi mx : Option (SV U.Ty)} (h : (sliceT E H t x lo hi mx).Runs (y, H')) :
    sliceD E (toH U H) t (toV U x) (lo.map (toV U)) (hi.map (toV U)) (mx.map (toV U)) = some (toV U y, toH U H') := by
  unfold sliceT at h
  unfold sliceD
  split at h
  · rename_i hfit
    have hl := h
    have hraw := lenAt_raw hl
    rw [if_pos (sliceFits_ok hl hfit)]
    obtain ⟨n, hn, ha⟩ := lenAt_ok hl
    rw [hn]
    obtain ⟨hh, eh, hb⟩ := boundT_ok ha
    obtain ⟨l, el, hc⟩ := boundT_ok hb
    simp only [eh, el]
    clear h ha hb
    revert hc
    intro h
    split at h
    · rename_i m
      split at h
      · simp [Tr.Runs] at h
      · rename_i xh
        obtain ⟨kk, ek, hd⟩ := boundT_ok h
        clear h
        revert hd
        intro h
        simp only [Tr.Runs, beq_iff_eq] at h
        obtain ⟨rfl, h⟩ := h
        simp only [Option.map_some, optBound] at ek
        simp only [Option.map_some, ek]
        split at h
        · rename_i e xs
          simp only [Tr.Runs, Prod.mk.injEq] at h
          obtain ⟨rfl, rfl⟩ := h
          simp [toV, elemsOf, List.map_take, List.map_drop]
        · rename_i e xs
          simp only [Tr.Runs, Prod.mk.injEq] at h
          obtain ⟨rfl, rfl⟩ := h
          simp [toV, elemsOf, List.map_take, List.map_drop]
        · rename_i id n'
          obtain ⟨e, xs, fl, h1, h2, h3, h4⟩ := rowAt_runs h
          simp only [Tr.Runs, Prod.mk.injEq] at h3
          obtain ⟨rfl, rfl⟩ := h3
          subst h2
          have hg : (toH U H).getD id default = toBox U (.row e xs fl) := by simp [List.getD, toH_get, h1]
          have hel : elemsOf (toH U H) (.lsl id 0 xs.length xs.length) = some (xs.map (U.enc e)) := by
            simp only [elemsOf, h4]
            simp only [toBox, Nat.zero_add, Nat.le_refl, decide_true, Bool.and_self, if_true, List.drop_zero]
            rw [List.take_of_length_le (by simp)]
          simp only [toV, hel, if_true, hg]
          simp only [toBox, Option.some.injEq, Prod.mk.injEq]
          refine ⟨by simp [List.map_take, List.map_drop], ?_⟩
          rw [bumpS_ok H [id] (by intro i hi; simp at hi; subst hi; exact ⟨_, _, _, h1⟩)]
        · simp [Tr.Runs] at h
    · simp only [Option.map_none]
      split at h
      · simp only [Tr.Runs, Prod.mk.injEq] at h
        obtain ⟨rfl, rfl⟩ := h
        simp [toV]
      · simp only [Tr.Runs, Prod.mk.injEq] at h
        obtain ⟨rfl, rfl⟩ := h
        simp [toV, List.map_take, List.map_drop]
      · simp only [Tr.Runs, Prod.mk.injEq] at h
        obtain ⟨rfl, rfl⟩ := h
        simp [toV, List.map_take, List.map_drop]
      · rename_i id n'
        have hnn : n = n' := by
          unfold lenAt at hl
          obtain ⟨e, xs, fl, h1, h2, h3, h4⟩ := rowAt_runs hl
          simpa [toV, lenOf, h4] using hn.symm
        subst hnn
        split at h
        · simp only [Tr.Runs, Prod.mk.injEq] at h
          obtain ⟨rfl, rfl⟩ := h
          simp only [Option.map_none, optBound, Option.some.injEq] at eh el
          subst eh
          subst el
          simp [toV]
        · simp only [Tr.Runs, Prod.mk.injEq] at h
          obtain ⟨rfl, rfl⟩ := h
          simp [toV]
      · simp only [Tr.Runs, Prod.mk.injEq] at h
        obtain ⟨rfl, rfl⟩ := h
        simp [toV]
      · split at h
        · rename_i s hs
          simp only [Tr.Runs, Prod.mk.injEq] at h
          obtain ⟨rfl, rfl⟩ := h
          simp [asStr_toV hs, toV]
        · simp [Tr.Runs] at h
  · simp [Tr.Runs] at h

/-! ### operations -/

/-- What the functions that are called are said to come to. -/
def MdlOK (U : Univ) (M : Mdl U) (call : CallF) : Prop :=
  ∀ g as H v H', (M g as H).Runs (v, H') → call g (toVs U as) (toH U H) = some (toV U v, toH U H')

theorem retT_ok {H H' : SHeap U} {T : Tr U (SV U.Ty)} {y : SV U.Ty} (h : (retT H T).Runs (y, H')) : T.Runs y ∧ H' = H := by
  simp only [retT, runs_andThen, Tr.Runs, Prod.mk.injEq] at h
  obtain ⟨x, h1, rfl, rfl⟩ := h
  exact ⟨h1, rfl⟩

theorem callT_ok {E : Env} {M : Mdl U} {call : CallF} (hU : UnivOK U E) (hM : MdlOK U M call) {k : Nat} {H H' : SHeap U} {s : List (SV U.Ty)} {c : Call} {o : Oper} {y : SV U.Ty} (hop : o.op = .call c) (h : (callT E M k H s c).Runs (y, H')) :
    opD call E k (toH U H) (toVs U s) o = some (toV U y, toH U H') := by
  unfold opD
  rw [hop]
  simp only
  unfold callT at h
  have hargs : evs E (toVs U s) c.args = toVs U (c.args.toList.map (evS E s)) := evs_toV E s c.args.toList
  split at h
  · rename_i b hb
    rw [hb]
    simp only
    rw [hargs]
    unfold builtinD
    split at h
    · rename_i x t he1 he2
      rw [he1, he2]
      split at h
      · rename_i hf
        have hraw := lenAt_raw h
        obtain ⟨n, hn, h⟩ := lenAt_ok h
        simp only [Tr.Runs, Prod.mk.injEq] at h
        obtain ⟨rfl, rfl⟩ := h
        simp only [toVs, lenFits_ok hraw, hf, if_true, hn, Option.map_some, toV]
        rfl
      · simp [Tr.Runs] at h
    · rename_i a x t u he1 he2
      rw [he1, he2]
      simp only [toVs]
      exact appendT_ok h
    · rename_i a x t u he1 he2
      rw [he1, he2]
      simp only [toVs]
      exact copyT_ok h
    · obtain ⟨h1, rfl⟩ := retT_ok h
      simp only [minmaxT_ok h1, Option.map_some]
    · obtain ⟨h1, rfl⟩ := retT_ok h
      simp only [minmaxT_ok h1, Option.map_some]
    · simp [Tr.Runs] at h
  · rename_i f hf
    rw [hf]
    simp only
    rw [ev_toV]
    split at h
    · rename_i g first caps hg
      rw [hg]
      simp only [toV]
      have hall : toVs U first ++ evs E (toVs U s) c.args ++ toVs U caps = toVs U (first ++ c.args.toList.map (evS E s) ++ caps) := by
        rw [hargs]; simp only [toVs_map, List.map_append]
      rw [hall]
      exact hM _ _ _ _ _ h
    · simp [Tr.Runs] at h
  · simp [Tr.Runs] at h

theorem parts_toV {E : Env} {s : List (SV U.Ty)} (ps : List (Nat × Operand)) : (ps.map fun (i, x) => (i, ev E (toVs U s) x)) = partsV (ps.map fun (i, x) => (i, evS E s x)) := by
  simp [partsV, ev_toV]

theorem optEv {E : Env} {s : List (SV U.Ty)} (x : Option Operand) : x.map (ev E (toVs U s)) = (x.map (evS E s)).map (toV U) := by
  cases x <;> simp [ev_toV]

theorem opT_ok {E : Env} {M : Mdl U} {call : CallF} (hU : UnivOK U E) (hM : MdlOK U M call) {k : Nat} {H H' : SHeap U} {s : List (SV U.Ty)} {o : Oper} {y : SV U.Ty} (h : (opT E M k H s o).Runs (y, H')) :
    opD call E k (toH U H) (toVs U s) o = some (toV U y, toH U H') := by
  unfold opT at h
  split at h
  · rename_i x hop
    simp only [Tr.Runs, Prod.mk.injEq] at h
    obtain ⟨rfl, rfl⟩ := h
    unfold opD
    rw [hop]
    simp only [ev_toV]
  · rename_i hop
    unfold opD
    rw [hop]
    simp only
    split at h
    · rename_i e _ _ _ hti
      simp only [runs_when, Tr.Runs, Prod.mk.injEq] at h
      obtain ⟨hes, rfl, rfl⟩ := h
      simp only [hti, toV, toH_place, toBox, newBox, hes]
      rfl
    · simp [Tr.Runs] at h
  · rename_i x hne hop
    simp only [Tr.Runs, Prod.mk.injEq] at h
    obtain ⟨rfl, rfl⟩ := h
    unfold opD
    rw [hop]
    split <;> simp_all [ev_toV]
  · rename_i c a b hop
    unfold opD
    rw [hop]
    simp only [ev_toV]
    split at h
    · rename_i hc
      simp only [Tr.Runs, Prod.mk.injEq] at h
      obtain ⟨rfl, rfl⟩ := h
      rw [hc]
      simp [toV]
    · rename_i hc
      simp only [Tr.Runs, Prod.mk.injEq] at h
      obtain ⟨rfl, rfl⟩ := h
      rw [hc]
      simp [toV]
    · rename_i t hc
      rw [hc]
      simp only [toV]
      split at h
      · rename_i x' y' hx hy
        simp only [Tr.Runs, Prod.mk.injEq] at h
        obtain ⟨rfl, rfl⟩ := h
        rw [asBool_toV hx, asBool_toV hy]
        cases t <;> simp [toV]
      · simp only [Tr.Runs, Prod.mk.injEq] at h
        rcases h with ⟨rfl, rfl, rfl⟩ | ⟨rfl, rfl, rfl⟩ <;> simp
    · simp [Tr.Runs] at h
  · rename_i t hop
    unfold opD
    rw [hop]
    simp only
    split at h
    · rename_i i hi
      simp only [hi]
      split at h
      · rename_i z hz
        simp only [runs_when, Tr.Runs, Prod.mk.injEq] at h
        obtain ⟨hc, rfl, rfl⟩ := h
        simp only [hz, hc, and_self, if_true, toV, toH_place, toBox, toV_ofV]
      · simp [Tr.Runs] at h
    · simp [Tr.Runs] at h
  · rename_i t x hop
    unfold opD
    rw [hop]
    simp only [ev_toV]
    split at h
    · rename_i i hi
      simp only [runs_when, Tr.Runs, Prod.mk.injEq] at h
      obtain ⟨⟨h1, h2⟩, rfl, rfl⟩ := h
      simp only [hi, cells_toV h2, length_toVs, h1, okS_okV h2, and_self, if_true, toV, toH_place, toBox]
    · simp [Tr.Runs] at h
  · rename_i t ps hop
    obtain ⟨h1, rfl⟩ := retT_ok h
    rw [runs_opt] at h1
    unfold opD
    rw [hop]
    simp only [parts_toV, buildT_ok h1, Option.map_some]
  · rename_i t n ps hop
    unfold opD
    rw [hop]
    simp only [parts_toV]
    exact buildSliceT_ok hU h
  · rename_i t a hop
    obtain ⟨h1, rfl⟩ := retT_ok h
    unfold opD
    rw [hop]
    simp only [ev_toV, loadT_ok hU h1, Option.map_some]
  · rename_i t a v hop
    simp only [runs_andThen, Tr.Runs, Prod.mk.injEq] at h
    obtain ⟨H1, h1, rfl, rfl⟩ := h
    unfold opD
    rw [hop]
    simp only [ev_toV, storeT_ok hU h1, Option.map_some]
    rfl
  · rename_i x hop
    unfold opD
    rw [hop]
    simp only [ev_toV]
    split at h
    · rename_i hx
      simp only [Tr.Runs, Prod.mk.injEq] at h
      obtain ⟨rfl, rfl⟩ := h
      simp [hx, toV, isNilV]
    · rename_i hx
      simp only [Tr.Runs, Prod.mk.injEq] at h
      obtain ⟨rfl, rfl⟩ := h
      simp [hx, toV, isNilV]
    · rename_i hx
      simp only [Tr.Runs, Prod.mk.injEq] at h
      obtain ⟨rfl, rfl⟩ := h
      simp [hx, toV, isNilV]
    · rename_i hx
      simp only [Tr.Runs, Prod.mk.injEq] at h
      obtain ⟨rfl, rfl⟩ := h
      simp [hx, toV, isNilV]
    · simp [Tr.Runs] at h
  · rename_i op t x z _ hop
    obtain ⟨h1, rfl⟩ := retT_ok h
    unfold opD
    rw [hop]
    simp only [ev_toV, binT_ok h1, Option.map_some]
  · rename_i op _ x hop
    obtain ⟨h1, rfl⟩ := retT_ok h
    unfold opD
    rw [hop]
    simp only [ev_toV, unT_ok h1, Option.map_some]
  · rename_i src dst x hop
    unfold opD
    rw [hop]
    simp only [ev_toV]
    split at h
    · rename_i hb
      rw [if_pos hb]
      exact convST_ok hU h
    · rename_i hb
      rw [if_neg hb]
      obtain ⟨h1, rfl⟩ := retT_ok h
      simp only [convT_ok h1]
  · rename_i t l c hop
    unfold opD
    rw [hop]
    simp only [ev_toV]
    split at h
    · rename_i e _ _ _ hti
      simp only [hti]
      split at h
      · rename_i n _ m _ ei hn hm hei
        obtain ⟨k1, hn'⟩ := okInt_toV hn
        obtain ⟨k2, hm'⟩ := okInt_toV hm
        simp only [hn', hm', hei]
        split at h
        · rename_i z hz
          simp only [hz]
          split at h
          · rename_i y0 hy0
            simp only [runs_when, Tr.Runs, decide_eq_true_eq, Prod.mk.injEq] at h
            obtain ⟨⟨c1, c2, c3, c4⟩, ⟨c5, c6, c7, c8⟩, rfl, rfl⟩ := h
            have hd := hU.dec _ _ _ hy0
            rw [toV_ofV] at hd
            rw [if_pos ⟨c5, c6, c7, c8, c1, c2, c3⟩]
            simp only [toV, toH_place, toBox, newBox, c4, hd, List.map_replicate, List.length_replicate]
            rfl
          · simp [Tr.Runs] at h
        · simp [Tr.Runs] at h
      · simp [Tr.Runs] at h
    · simp [Tr.Runs] at h
  · rename_i t x lo hi mx hop
    unfold opD
    rw [hop]
    simp only [ev_toV, optEv]
    split at h
    · rename_i n e sz by' z0 hti
      rw [hti]
      exact sliceAT_ok hU h
    · rename_i hna
      split
      · rename_i n e sz by' z0 hti
        exact absurd hti (hna n e sz by' z0)
      · exact sliceT_ok h
  · rename_i t x hop
    obtain ⟨h1, rfl⟩ := retT_ok h
    unfold opD
    rw [hop]
    simp only [ev_toV, arrT_ok hU h1, Option.map_some]
  · rename_i t x f hop
    obtain ⟨h1, rfl⟩ := retT_ok h
    rw [runs_opt] at h1
    unfold opD
    rw [hop]
    simp only [ev_toV, fieldAddrT_ok h1, Option.map_some]
  · rename_i t x f hop
    obtain ⟨h1, rfl⟩ := retT_ok h
    rw [runs_opt] at h1
    unfold opD
    rw [hop]
    simp only [ev_toV, fieldT_ok h1, Option.map_some]
  · rename_i t x i hop
    obtain ⟨h1, rfl⟩ := retT_ok h
    unfold opD
    rw [hop]
    simp only [ev_toV, indexAddrT_ok h1, Option.map_some]
  · rename_i t x i hop
    obtain ⟨h1, rfl⟩ := retT_ok h
    unfold opD
    rw [hop]
    simp only [ev_toV, indexT_ok h1, Option.map_some]
  · rename_i x i hop
    unfold opD
    rw [hop]
    simp only [ev_toV]
    split at h
    · rename_i vs hv
      obtain ⟨h1, rfl⟩ := retT_ok h
      rw [runs_opt] at h1
      simp [hv, toV, toVs_map, h1]
    · simp [Tr.Runs] at h
  · rename_i f first caps hop
    simp only [Tr.Runs, Prod.mk.injEq] at h
    obtain ⟨rfl, rfl⟩ := h
    unfold opD
    rw [hop]
    simp only [toV, evs, evs_toV]
  · rename_i c hop
    exact callT_ok hU hM hop h
  · simp [Tr.Runs] at h

/-! ### regions -/

theorem stepT_ok {E : Env} {M : Mdl U} {call : CallF} (hU : UnivOK U E) (hM : MdlOK U M call) {ops : Array Oper} {k i : Nat} {st st' : SSt U} (h : (stepT E M ops k i st).Runs st') :
    stepAt call E ops k i (toSt U st) = some (toSt U st') := by
  unfold stepT at h
  unfold stepAt
  split at h
  · rename_i ho
    simp only [Tr.Runs] at h
    subst h
    rw [ho]
  · rename_i o ho
    rw [ho]
    simp only at h ⊢
    have run : ∀ (q : SSt U), ((opT E M k q.H q.s o).andThen fun r => Tr.leaf (⟨setS q.s o.dst r.1, r.2⟩ : SSt U)).Runs st' → ∃ v H1, opD call E k (toH U q.H) (toVs U q.s) o = some (v, H1) ∧ (⟨setSlot (toVs U q.s) o.dst v, H1⟩ : St) = toSt U st' := by
      intro q hq
      simp only [runs_andThen, Tr.Runs] at hq
      obtain ⟨⟨v, H1⟩, h1, rfl⟩ := hq
      exact ⟨_, _, opT_ok hU hM h1, by simp only [toSt, set_toV]⟩
    have skip : ∀ (q : SSt U), (Tr.leaf (⟨setS q.s o.dst .no, q.H⟩ : SSt U) : Tr U (SSt U)).Runs st' → (⟨setSlot (toVs U q.s) o.dst vundef, toH U q.H⟩ : St) = toSt U st' := by
      intro q hq
      simp only [Tr.Runs] at hq
      subst hq
      simp only [toSt, set_toV]
      rfl
    unfold actD
    cases hg : o.guard with
    | none =>
      simp only [hg] at h
      obtain ⟨v, H1, h1, h2⟩ := run st h
      simp only [toSt, h1]
      rw [h2]
      rfl
    | some jw =>
      obtain ⟨j, want⟩ := jw
      simp only [hg] at h
      split at h
      · simp [Tr.Runs] at h
      · rename_i d hd
        simp only [hd]
        rw [show (toSt U st).s.getD d .und = toV U (st.s.getD d .und) from toVs_getD st.s d]
        have fin : ∀ (b : Bool) (q : SSt U), toSt U q = toSt U st → toV U (st.s.getD d .und) = .lit (.bool b) →
            (if b == want then ((opT E M k q.H q.s o).andThen fun r => Tr.leaf (⟨setS q.s o.dst r.1, r.2⟩ : SSt U)) else (Tr.leaf (⟨setS q.s o.dst .no, q.H⟩ : SSt U) : Tr U (SSt U))).Runs st' →
            (match (match guardD (toV U (st.s.getD d .und)) want with
              | none => none
              | some false => some (vundef, (toSt U st).H)
              | some true => opD call E k (toSt U st).H (toSt U st).s o) with
            | some (v, H) => some (⟨setSlot (toSt U st).s o.dst v, H⟩ : St)
            | none => none) = some (toSt U st') := by
          intro b q hq hv hr
          rw [hv, ← hq]
          simp only [guardD]
          split at hr
          · rename_i hb
            obtain ⟨v, H1, h1, h2⟩ := run q hr
            rw [hb]
            simp only [toSt, h1]
            exact congrArg some h2
          · rename_i hb
            have := skip q hr
            rw [show (b == want) = false by simpa using hb]
            simp only [toSt]
            exact congrArg some this
        split at h
        · rename_i hs
          rw [hs]
          have := skip st h
          simp only [toV, guardD, toSt]
          exact congrArg some this
        · rename_i hs
          refine fin true st rfl (by rw [hs]; rfl) ?_
          cases want <;> exact h
        · rename_i hs
          refine fin false st rfl (by rw [hs]; rfl) ?_
          cases want <;> exact h
        · rename_i b hs
          have hsame : ∀ b', b = b' → toSt U (⟨st.s.set d (.lit (.bool b')), st.H⟩ : SSt U) = toSt U st := by
            rintro b' rfl
            simp only [toSt, St.mk.injEq, and_true]
            rw [toVs_map, toVs_map, List.map_set]
            apply List.ext_getElem?
            intro n
            rw [List.getElem?_set]
            split
            · rename_i hdn
              subst hdn
              split
              · rename_i hlt
                simp only [List.length_map] at hlt
                have : st.s.getD d .und = st.s[d] := by simp [List.getD, hlt]
                rw [this] at hs
                simp [hlt, hs, toV]
              · rename_i hge
                rw [List.getElem?_eq_none (by simpa using hge)]
            · rfl
          simp only [Tr.Runs] at h
          rcases h with ⟨rfl, h⟩ | ⟨rfl, h⟩
          · refine fin true _ (hsame true rfl) (by rw [hs]; rfl) ?_
            cases want <;> exact h
          · refine fin false _ (hsame false rfl) (by rw [hs]; rfl) ?_
            cases want <;> exact h
        · simp [Tr.Runs] at h

theorem opsT_ok {E : Env} {M : Mdl U} {call : CallF} (hU : UnivOK U E) (hM : MdlOK U M call) {ops : Array Oper} : ∀ {is : List Nat} {st st' : SSt U}, (opsT E M ops is st).Runs st' → opsD call E ops is (toSt U st) = some (toSt U st') := by
  intro is
  induction is with
  | nil => intro st st' h; simp only [opsT, Tr.Runs] at h; subst h; rfl
  | cons i is ih =>
    intro st st' h
    simp only [opsT, runs_andThen] at h
    obtain ⟨st1, h1, h2⟩ := h
    have := stepT_ok hU hM h1
    simp only [opsD, stepD]
    rw [show (toSt U st).H.length = st.H.length from toH_length st.H, this]
    exact ih h2

theorem refsO_toV {E : Env} {s : List (SV U.Ty)} {o : Oper} : refsO E (toVs U s) o = refsOS E s o := by
  unfold refsO refsOS
  congr 1
  funext x
  rw [ev_toV, refsV_toV]

theorem lateAtS_ok {H : SHeap U} {a : SV U.Ty} {k : Nat} (h : lateAtS H a k = true) : lateAt (toH U H) (toV U a) k = true := by
  unfold lateAtS at h
  split at h
  · rename_i id i off tot
    simp only [Bool.and_eq_true, beq_iff_eq] at h
    obtain ⟨h1, h2⟩ := h
    split at h2
    · rename_i e n x hb
      simp only [beq_iff_eq] at h2
      simp only [toV, lateAt, h1, beq_self_eq_true, Bool.true_and, boxAt, toH_get]
      rw [← h1, hb]
      simp [toBox, newBox, h2]
    · cases h2
  · rename_i id n
    simp only [Bool.and_eq_true, beq_iff_eq] at h
    obtain ⟨h1, h2⟩ := h
    split at h2
    · rename_i t xs fl hb
      simp only [toV, lateAt, h1, beq_self_eq_true, Bool.true_and, toH_get]
      rw [← h1, hb]
      simp [toBox]
    · cases h2
  · cases h

theorem tgtNoS_ok {base k : Nat} {s0 : List (SV U.Ty)} {t : Nat ⊕ Nat} (h : tgtNoS base s0 t = some k) : tgtNo base (toVs U s0) t = some k := by
  cases t with
  | inl j => exact h
  | inr d =>
    unfold tgtNoS at h
    unfold tgtNo
    have : (toVs U s0).getD d .und = toV U (s0.getD d .und) := by
      rw [toVs_map]
      simp only [List.getD, List.getElem?_map]
      cases s0[d]? <;> rfl
    simp only at h ⊢
    rw [this]
    split at h
    · rename_i he
      rw [he]
      exact h
    · rename_i he
      rw [he]
      exact h
    · cases h

theorem lateT_ok {E : Env} {ms : List Nat} {lt : List (Nat × (Nat ⊕ Nat))} {s0 : List (SV U.Ty)} {base i : Nat} {s : List (SV U.Ty)} {H : SHeap U} {o : Oper} (h : lateT E ms lt s0 base i s H o = true) : lateD E ms lt (toVs U s0) base i (toVs U s) (toH U H) o = true := by
  unfold lateT at h
  unfold lateD
  rw [List.all_eq_true] at h ⊢
  intro p hp
  have h := h p hp
  cases ht : tgtNoS base s0 p.2 with
  | none => rw [ht] at h; cases h
  | some k =>
    rw [ht] at h
    simp only at h
    rw [tgtNoS_ok ht]
    simp only
    have : addrOf E (toVs U s) o = toV U (addrOfS E s o) := by
      unfold addrOf addrOfS
      cases writesAt o <;> first | exact ev_toV .. | rfl
    rw [this, refsO_toV]
    split
    · rename_i he
      rw [if_pos he] at h
      exact lateAtS_ok h
    · rename_i he
      rw [if_neg he] at h
      exact h

theorem stepRT_ok {E : Env} {M : Mdl U} {call : CallF} (hU : UnivOK U E) (hM : MdlOK U M call) {ops : Array Oper} {ms : List Nat} {lt : List (Nat × (Nat ⊕ Nat))} {s0 : List (SV U.Ty)} {base m i : Nat} {st st' : SSt U} (h : (stepRT E M ops ms lt s0 base m i st).Runs st') :
    stepR call E ops ms lt (toVs U s0) base m i (toSt U st) = some (toSt U st') := by
  unfold stepRT at h
  unfold stepR
  split at h
  · rename_i ho
    simp only [Tr.Runs] at h
    subst h
    rw [ho]
  · rename_i o ho
    rw [ho]
    simp only [runs_when] at h ⊢
    obtain ⟨h1, h1', h⟩ := h
    rw [Bool.and_eq_true] at h1'
    rw [show refsO E (toSt U st).s o = refsOS E st.s o from refsO_toV, show (toSt U st).H.length = st.H.length from toH_length st.H, if_pos (by rw [h1, Bool.true_and, Bool.and_eq_true]; exact ⟨lateT_ok h1'.1, h1'.2⟩)]
    split at h
    · rename_i hc
      rw [if_pos hc]
      rw [show (toSt U st).H[base + i]? = (st.H[base + i]?).map (toBox U) from toH_get _ _]
      split at h
      · rename_i b hb
        rw [hb]
        split at h
        · rename_i hd
          have : b = .dead := by cases b <;> simp_all [isDead]
          subst this
          simp only [Option.map_some, toBox, deadBox, Bool.false_eq_true, if_false]
          exact stepT_ok hU hM h
        · simp [Tr.Runs] at h
      · simp [Tr.Runs] at h
    · rename_i hc
      rw [if_neg hc]
      exact stepT_ok hU hM h

theorem stepsRT_ok {E : Env} {M : Mdl U} {call : CallF} (hU : UnivOK U E) (hM : MdlOK U M call) {ops : Array Oper} {ms : List Nat} {lt : List (Nat × (Nat ⊕ Nat))} {s0 : List (SV U.Ty)} {base m : Nat} : ∀ {is : List Nat} {st st' : SSt U}, (stepsRT E M ops ms lt s0 base m is st).Runs st' →
    stepsR call E ops ms lt (toVs U s0) base m is (toSt U st) = some (toSt U st') := by
  intro is
  induction is with
  | nil => intro st st' h; simp only [stepsRT, Tr.Runs] at h; subst h; rfl
  | cons i is ih =>
    intro st st' h
    simp only [stepsRT, runs_andThen] at h
    obtain ⟨st1, h1, h2⟩ := h
    simp only [stepsR, stepRT_ok hU hM h1]
    exact ih h2

theorem drawT_ok {E : Env} {M : Mdl U} {call : CallF} (hU : UnivOK U E) (hM : MdlOK U M call) {ops : Array Oper} {st st' : SSt U} (h : (drawT E M ops st).Runs st') : drawD call E ops (toSt U st) = some (toSt U st') := by
  unfold drawT at h
  unfold drawD
  have := stepsRT_ok hU hM h
  rw [show (toSt U st).H.length = st.H.length from toH_length st.H]
  rw [← this]
  congr 1
  simp [toSt, toH, toBox]

end

end Go.Proofs.YtkepnndakhpgoaaGreatDoor.Le

/-
  Symbolic values: calls that are given boxes, and their ends.
-/
namespace Go.Proofs.YtkepnndakhpgoaaGreatDoor.Le
set_option linter.unusedVariables false
set_option linter.unusedSimpArgs false

section
variable {U : Univ}

mutual
def refsFS : SV U.Ty → List Nat
  | .all id _ => [id]
  | .lsl id _ _ _ => [id]
  | .ptr id _ _ _ => [id]
  | .agg cs => refsFSs cs
  | .tup cs => refsFSs cs
  | .fn _ a b => refsFSs a ++ refsFSs b
  | .raw v => refsF v
  | _ => []
def refsFSs : List (SV U.Ty) → List Nat
  | [] => []
  | x :: xs => refsFS x ++ refsFSs xs
end

mutual
def renFS (ρ : Nat → Nat) : SV U.Ty → SV U.Ty
  | .all id n => .all (ρ id) n
  | .lsl id off len tot => .lsl (ρ id) off len tot
  | .ptr id i off tot => .ptr (ρ id) i off tot
  | .agg cs => .agg (renFSs ρ cs)
  | .tup cs => .tup (renFSs ρ cs)
  | .fn f a b => .fn f (renFSs ρ a) (renFSs ρ b)
  | .raw v => .raw (renF ρ v)
  | v => v
def renFSs (ρ : Nat → Nat) : List (SV U.Ty) → List (SV U.Ty)
  | [] => []
  | x :: xs => renFS ρ x :: renFSs ρ xs
end

mutual
theorem refsF_toV : ∀ x : SV U.Ty, refsF (toV U x) = refsFS x
  | .all _ _ => by simp only [toV, refsF, refsFS]
  | .lsl _ _ _ _ => by simp only [toV, refsF, refsFS]
  | .ptr _ _ _ _ => by simp only [toV, refsF, refsFS]
  | .agg cs => by simp only [toV, refsF, refsFS]; exact refsFs_toV cs
  | .tup cs => by simp only [toV, refsF, refsFS]; exact refsFs_toV cs
  | .fn _ a b => by simp only [toV, refsF, refsFS]; rw [refsFs_toV a, refsFs_toV b]
  | .raw v => by simp only [toV, refsFS]
  | .lit _ => by simp only [toV, refsF, refsFS]
  | .si _ _ => by simp only [toV, refsF, refsFS]
  | .sb _ => by simp only [toV, refsF, refsFS]
  | .ss _ => by simp only [toV, refsF, refsFS]
  | .nil _ => by simp only [toV, refsF, refsFS]
  | .sl _ _ => by simp only [toV, refsF, refsFS]
  | .slt _ _ => by simp only [toV, refsF, refsFS]
  | .ept _ _ _ _ => by simp only [toV, refsF, refsFS]
  | .no => by simp only [toV, refsF, refsFS]
  | .und => by simp only [toV, refsF, refsFS]
theorem refsFs_toV : ∀ xs : List (SV U.Ty), refsFs (toVs U xs) = refsFSs xs
  | [] => rfl
  | x :: xs => by simp only [toVs, refsFs, refsFSs]; rw [refsF_toV x, refsFs_toV xs]
end

mutual
theorem renF_toV (ρ : Nat → Nat) : ∀ x : SV U.Ty, toV U (renFS ρ x) = renF ρ (toV U x)
  | .all _ _ => by simp only [toV, renF, renFS]
  | .lsl _ _ _ _ => by simp only [toV, renF, renFS]
  | .ptr _ _ _ _ => by simp only [toV, renF, renFS]
  | .agg cs => by simp only [toV, renF, renFS]; rw [renFs_toV ρ cs]
  | .tup cs => by simp only [toV, renF, renFS]; rw [renFs_toV ρ cs]
  | .fn _ a b => by simp only [toV, renF, renFS]; rw [renFs_toV ρ a, renFs_toV ρ b]
  | .raw v => by simp only [toV, renFS]
  | .lit _ => by simp only [toV, renF, renFS]
  | .si _ _ => by simp only [toV, renF, renFS]
  | .sb _ => by simp only [toV, renF, renFS]
  | .ss _ => by simp only [toV, renF, renFS]
  | .nil _ => by simp only [toV, renF, renFS]
  | .sl _ _ => by simp only [toV, renF, renFS]
  | .slt _ _ => by simp only [toV, renF, renFS]
  | .ept _ _ _ _ => by simp only [toV, renF, renFS]
  | .no => by simp only [toV, renF, renFS]
  | .und => by simp only [toV, renF, renFS]
theorem renFs_toV (ρ : Nat → Nat) : ∀ xs : List (SV U.Ty), toVs U (renFSs ρ xs) = renFs ρ (toVs U xs)
  | [] => rfl
  | x :: xs => by simp only [toVs, renFs, renFSs]; rw [renF_toV ρ x, renFs_toV ρ xs]
end

/-! ### cells made ready -/

def retS (e sz : Nat) (H : SHeap U) : SV U.Ty → Tr U (SV U.Ty × SHeap U)
  | .nil _ => .when (U.esz e = sz) (.leaf (.sl e [], H))
  | y => .leaf (y, H)
def prep1S : Fk → SHeap U → SV U.Ty → Tr U (SV U.Ty × SHeap U)
  | .s e sz, H, x => (frz0S H x).andThen fun y => retS e sz (bumpS H (ids1S x)) y
  | .own e sz, H, x => (match x with
    | .nil _ => .when (U.esz e = sz) (.leaf (.all H.length 0, H ++ [.row e [] none]))
    | .all id n => .leaf (.all id n, H)
    | _ => .fail)
  | .keep, H, x => .leaf (x, H)
def prepLS : List Fk → SHeap U → List (SV U.Ty) → Tr U (List (SV U.Ty) × SHeap U)
  | [], H, [] => .leaf ([], H)
  | f :: fs, H, x :: xs => (prep1S f H x).andThen fun r => (prepLS fs r.2 xs).andThen fun q => .leaf (r.1 :: q.1, q.2)
  | _, _, _ => .fail
def prepVS (fl : List Fk) (H : SHeap U) (x : SV U.Ty) : Tr U (SV U.Ty × SHeap U) :=
  match x with
  | .agg cs => (prepLS fl H cs).andThen fun r => .leaf (.agg r.1, r.2)
  | .raw _ => .fail
  | x => match fl with
    | [f] => prep1S f H x
    | _ => .fail
def prepAS : List (List Fk) → SHeap U → List (SV U.Ty) → Tr U (List (SV U.Ty) × SHeap U)
  | [], H, [] => .leaf ([], H)
  | f :: fs, H, x :: xs => (prepVS f H x).andThen fun r => (prepAS fs r.2 xs).andThen fun q => .leaf (r.1 :: q.1, q.2)
  | _, _, _ => .fail

def packHS : Nat → List Bf → SHeap U → List Nat → List Nat → Tr U (SHeap U × List Nat)
  | 0, _, _, _, _ => .fail
  | _ + 1, _, H, [], seen => .leaf (H, seen)
  | n + 1, fb, H, id :: todo, seen =>
    if seen.contains id then packHS n fb H todo seen else
    match H[id]?, fb with
    | some (.row _ _ none), .row true :: fb' => packHS n fb' H todo (seen ++ [id])
    | some (.row _ _ _), .row false :: fb' => packHS n fb' (bumpS H [id]) todo (seen ++ [id])
    | some (.var _ _ x), .var fl :: fb' => (prepVS fl H x).andThen fun r => (match r.2[id]? with
        | some (.var e m _) => .when (okS r.1 = true) (packHS n fb' (r.2.set id (.var e m r.1)) (todo ++ refsFS r.1) (seen ++ [id]))
        | _ => .fail)
    | _, _ => .fail

def renSBox (ρ : Nat → Nat) : SBox U.Ty → SBox U.Ty
  | .var e n x => .var e n (renFS ρ x)
  | .fvar e n x => .fvar e n (renFS ρ x)
  | b => b
def subHS (H : SHeap U) (ids : List Nat) : SHeap U := ids.map fun id => renSBox (ids.idxOf ·) ((H[id]?).getD .dead)
def packS (fa : List (List Fk)) (fb : List Bf) (k : Nat) (args : List (SV U.Ty)) (H : SHeap U) : Tr U (List Nat × List (SV U.Ty) × SHeap U) :=
  (prepAS fa H args).andThen fun r => (packHS 1000 fb r.2 (List.range k ++ refsFSs r.1) []).andThen fun q => .leaf (q.2, r.1, q.1)

def putBS : SHeap U → List Nat → SHeap U → SHeap U
  | H, [], bs => H ++ bs
  | H, id :: ids, b :: bs => putBS (H.set id b) ids bs
  | H, _ :: _, [] => H
def putBackS (H : SHeap U) (ids : List Nat) (H3 : SHeap U) : SHeap U := putBS H ids (H3.map (renSBox (backN ids H.length)))

/-! ### they stand for the same of values -/

theorem retS_ok {e sz : Nat} {H : SHeap U} {y : SV U.Ty} {r : SV U.Ty × SHeap U} (h : (retS e sz H y).Runs r) (hy : ∀ v, y ≠ .raw v) : toV U r.1 = retype1 sz (toV U y) ∧ r.2 = H := by
  unfold retS at h
  split at h
  · simp only [runs_when, Tr.Runs] at h
    obtain ⟨he, rfl⟩ := h
    simp [toV, retype1, he]
  · simp only [Tr.Runs] at h
    subst h
    refine ⟨?_, rfl⟩
    cases y with
    | nil e' => rename_i hne; exact absurd rfl (hne e')
    | raw v => exact absurd rfl (hy v)
    | _ => simp [toV, retype1]

theorem frz0S_raw {H : SHeap U} {x y : SV U.Ty} (h : (frz0S H x).Runs y) : ∀ v, y ≠ .raw v := by
  intro v hv
  subst hv
  unfold frz0S at h
  split at h <;> (try (simp [Tr.Runs] at h; done))
  · obtain ⟨t, xs, fl, h1, h2, h3, h4⟩ := rowAt_runs h; simp [Tr.Runs] at h3
  · obtain ⟨t, xs, fl, h1, h2, h3, h4⟩ := rowAt_runs h; simp [Tr.Runs] at h3

theorem prep1S_ok {f : Fk} {H : SHeap U} {x : SV U.Ty} {r : SV U.Ty × SHeap U} (h : (prep1S f H x).Runs r) : prep1 f (toH U H) (toV U x) = some (toV U r.1, toH U r.2) := by
  cases f with
  | s e sz =>
    simp only [prep1S, runs_andThen] at h
    obtain ⟨y, h1, h2⟩ := h
    obtain ⟨e1, e2⟩ := retS_ok h2 (frz0S_raw h1)
    simp only [prep1, frz0S_ok h1, Option.map_some, e1, e2]
    rw [ids1_toV, bumpS_ok H _ (frz0S_rows h1)]
  | own e sz =>
    simp only [prep1S] at h
    split at h
    · simp only [runs_when, Tr.Runs] at h
      obtain ⟨he, rfl⟩ := h
      simp [prep1, prepO, toV, toH, toBox, newBox, he]
    · simp only [Tr.Runs] at h
      subst h
      simp [prep1, prepO, toV]
    · simp [Tr.Runs] at h
  | keep =>
    simp only [prep1S, Tr.Runs] at h
    subst h
    rfl

theorem prepLS_ok : ∀ {fl : List Fk} {H : SHeap U} {xs : List (SV U.Ty)} {r : List (SV U.Ty) × SHeap U}, (prepLS fl H xs).Runs r → prepL fl (toH U H) (toVs U xs) = some (toVs U r.1, toH U r.2) := by
  intro fl
  induction fl with
  | nil =>
    intro H xs r h
    cases xs with
    | nil => simp only [prepLS, Tr.Runs] at h; subst h; rfl
    | cons => simp [prepLS, Tr.Runs] at h
  | cons f fl ih =>
    intro H xs r h
    cases xs with
    | nil => simp [prepLS, Tr.Runs] at h
    | cons x xs =>
      simp only [prepLS, runs_andThen, Tr.Runs] at h
      obtain ⟨p, h1, q, h2, rfl⟩ := h
      simp only [toVs, prepL, prep1S_ok h1, ih h2]

theorem prepVS_ok {fl : List Fk} {H : SHeap U} {x : SV U.Ty} {r : SV U.Ty × SHeap U} (h : (prepVS fl H x).Runs r) : prepV fl (toH U H) (toV U x) = some (toV U r.1, toH U r.2) := by
  unfold prepVS at h
  split at h
  · rename_i cs
    simp only [runs_andThen, Tr.Runs] at h
    obtain ⟨p, h1, rfl⟩ := h
    simp only [toV, prepV, prepLS_ok h1, Option.map_some]
  · simp [Tr.Runs] at h
  · rename_i hn1 hn2
    split at h
    · rename_i f
      have h1 := prep1S_ok h
      unfold prepV
      split
      · rename_i cs hcs
        exfalso
        cases x <;> simp_all [toV]
      · exact h1
    · simp [Tr.Runs] at h

theorem prepAS_ok : ∀ {fl : List (List Fk)} {H : SHeap U} {xs : List (SV U.Ty)} {r : List (SV U.Ty) × SHeap U}, (prepAS fl H xs).Runs r → prepA fl (toH U H) (toVs U xs) = some (toVs U r.1, toH U r.2) := by
  intro fl
  induction fl with
  | nil =>
    intro H xs r h
    cases xs with
    | nil => simp only [prepAS, Tr.Runs] at h; subst h; rfl
    | cons => simp [prepAS, Tr.Runs] at h
  | cons f fl ih =>
    intro H xs r h
    cases xs with
    | nil => simp [prepAS, Tr.Runs] at h
    | cons x xs =>
      simp only [prepAS, runs_andThen, Tr.Runs] at h
      obtain ⟨p, h1, q, h2, rfl⟩ := h
      simp only [toVs, prepA, prepVS_ok h1, ih h2]

theorem packHS_ok : ∀ {n : Nat} {fb : List Bf} {H : SHeap U} {todo seen : List Nat} {r : SHeap U × List Nat}, (packHS n fb H todo seen).Runs r → packH n fb (toH U H) todo seen = some (toH U r.1, r.2) := by
  intro n
  induction n with
  | zero => intro fb H todo seen r h; simp [packHS, Tr.Runs] at h
  | succ n ih =>
    intro fb H todo seen r h
    cases todo with
    | nil => simp only [packHS, Tr.Runs] at h; subst h; rfl
    | cons id todo =>
      unfold packHS at h
      unfold packH
      by_cases hin : seen.contains id = true
      · rw [if_pos hin] at h ⊢
        exact ih h
      · rw [if_neg hin] at h ⊢
        rw [toH_get]
        split at h
        · rename_i t xs fb' hb
          rw [hb]
          simp only [Option.map_some, toBox, Bool.and_self, if_true]
          exact ih h
        · rename_i t xs fl fb' hb
          rw [hb]
          simp only [Option.map_some, toBox, Bool.and_self, if_true, Bool.false_eq_true, if_false]
          rw [← bumpS_ok H [id] (fun i hi => by simp at hi; subst hi; exact ⟨t, xs, fl, hb⟩)]
          exact ih h
        · rename_i e m x fl fb' hb
          rw [hb]
          simp only [runs_andThen] at h
          obtain ⟨p, h1, h2⟩ := h
          simp only [Option.map_some, toBox, newBox, Bool.not_false, Bool.and_self, if_true, prepVS_ok h1, toH_get]
          split at h2
          · rename_i e' m' x' hb'
            simp only [runs_when] at h2
            obtain ⟨hok, h2⟩ := h2
            rw [hb']
            simp only [Option.map_some, toBox, newBox, okS_okV hok, if_true]
            have := ih h2
            rw [toH_set] at this
            simp only [toBox, newBox] at this
            rw [refsF_toV]
            exact this
          · simp [Tr.Runs] at h2
        · simp [Tr.Runs] at h

theorem packS_ok {fa : List (List Fk)} {fb : List Bf} {k : Nat} {args : List (SV U.Ty)} {H : SHeap U} {r : List Nat × List (SV U.Ty) × SHeap U} (h : (packS fa fb k args H).Runs r) : pack fa fb k (toVs U args) (toH U H) = some (r.1, toVs U r.2.1, toH U r.2.2) := by
  simp only [packS, runs_andThen, Tr.Runs] at h
  obtain ⟨p, h1, q, h2, rfl⟩ := h
  simp only [pack, prepAS_ok h1, refsFs_toV, packHS_ok h2]

theorem renSBox_toBox (ρ : Nat → Nat) (b : SBox U.Ty) : toBox U (renSBox ρ b) = renBox ρ (toBox U b) := by
  cases b <;> simp [renSBox, toBox, renBox, newBox, deadBox, renFs, renF_toV]

theorem subHS_toH (H : SHeap U) (ids : List Nat) : toH U (subHS H ids) = subH (toH U H) ids := by
  simp only [toH, subHS, subH, List.map_map]
  apply List.map_congr_left
  intro id _
  simp only [Function.comp, renSBox_toBox]
  congr 1
  rw [List.getElem?_map]
  cases H[id]? <;> rfl

theorem putBS_toH : ∀ (H : SHeap U) (ids : List Nat) (bs : SHeap U), toH U (putBS H ids bs) = putB (toH U H) ids (toH U bs) := by
  intro H ids
  induction ids generalizing H with
  | nil => intro bs; simp [putBS, putB, toH]
  | cons id ids ih =>
    intro bs
    cases bs with
    | nil => rfl
    | cons b bs =>
      simp only [putBS, ih, toH_set]
      rfl

theorem putBackS_toH (H : SHeap U) (ids : List Nat) (H3 : SHeap U) : toH U (putBackS H ids H3) = putBack (toH U H) ids (toH U H3) := by
  simp only [putBackS, putBack, putBS_toH]
  congr 1
  simp only [toH, List.map_map]
  apply List.map_congr_left
  intro b _
  simp [Function.comp, renSBox_toBox]

def fnKeyS : List (SV U.Ty) → List FuncId
  | [] => []
  | .fn f _ _ :: vs => f :: fnKeyS vs
  | .raw v :: vs => fnKey [v] ++ fnKeyS vs
  | _ :: vs => fnKeyS vs

theorem fnKey_cons (v : V) (vs : List V) : fnKey (v :: vs) = fnKey [v] ++ fnKey vs := by
  cases v <;> simp [fnKey]

theorem fnKeyS_toV : ∀ (vs : List (SV U.Ty)), fnKey (toVs U vs) = fnKeyS vs := by
  intro vs
  induction vs with
  | nil => rfl
  | cons v vs ih =>
    simp only [toVs]
    rw [fnKey_cons, ih]
    cases v <;> simp [toV, fnKey, fnKeyS]

end

end Go.Proofs.YtkepnndakhpgoaaGreatDoor.Le

