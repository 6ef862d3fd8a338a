/-
  Functions of a program as functions of Lean: how what is proved of a tree becomes what a call comes to.
-/
import Derived.Test.YtcjccaonfgcakaaLe29
namespace Go.Proofs.Ytcjccaonfgcakaa.Le
set_option linter.unusedVariables false
open Go.RowKit (Below)

section
variable {U : Univ}

/-! ### arguments, models -/

def Args (U : Univ) : List Nat → Type
  | [] => Unit
  | t :: ts => U.Ty t × Args U ts

def encArgs : (ts : List Nat) → Args U ts → List V
  | [], _ => []
  | t :: ts, x => U.enc t x.1 :: encArgs ts x.2

def decArgs : (ts : List Nat) → List (SV U.Ty) → Option (Args U ts)
  | [], [] => some ()
  | t :: ts, v :: vs => match U.decS t v, decArgs ts vs with | some a, some as => some (a, as) | _, _ => none
  | _, _ => none

structure Mod (U : Univ) where
  ts : List Nat
  rt : Nat
  fn : Args U ts → Option (U.Ty rt)
  ok : ∀ t ∈ ts, t ∈ U.keys

def mdlOf (mods : FuncId → Option (Mod U)) : Mdl U := fun g =>
  match mods g with
  | some m => some fun as => match decArgs m.ts as with | some x => some ⟨m.rt, m.fn x⟩ | none => none
  | none => none

open Classical in
noncomputable def envOf (mods : FuncId → Option (Mod U)) : FuncId → Option (List V → Option V) := fun g =>
  match mods g with
  | some m => some fun as => if h : ∃ x : Args U m.ts, encArgs m.ts x = as then (m.fn (Classical.choose h)).map (U.enc m.rt) else none
  | none => none

theorem decArgs_ok {E : Env} (hU : UnivOK U E) : ∀ {ts : List Nat} {vs : List (SV U.Ty)} {x : Args U ts}, decArgs ts vs = some x → retypeAll E.rows ts (toVs U vs) = encArgs ts x := by
  intro ts
  induction ts with
  | nil =>
    intro vs x h
    cases vs with
    | nil => rfl
    | cons => simp [decArgs] at h
  | cons t ts ih =>
    intro vs x h
    cases vs with
    | nil => simp [decArgs] at h
    | cons v vs =>
      simp only [decArgs] at h
      split at h
      · rename_i a as h1 h2
        cases h
        simp only [toVs, retypeAll, encArgs, hU.dec _ _ _ h1, ih h2]
      · cases h

theorem encArgs_inj {E : Env} (hU : UnivOK U E) : ∀ {ts : List Nat} {x y : Args U ts}, (∀ t ∈ ts, t ∈ U.keys) → encArgs ts x = encArgs ts y → x = y := by
  intro ts
  induction ts with
  | nil => intro x y _ _; rfl
  | cons t ts ih =>
    intro x y hk h
    obtain ⟨x1, x2⟩ := x
    obtain ⟨y1, y2⟩ := y
    simp only [encArgs, List.cons.injEq] at h
    rw [hU.inj t (hk t (by simp)) _ _ h.1, ih (fun t' ht' => hk t' (by simp [ht'])) h.2]

theorem encArgs_noRef {E : Env} (hU : UnivOK U E) : ∀ {ts : List Nat} (x : Args U ts), noRefs (encArgs ts x) = true := by
  intro ts
  induction ts with
  | nil => intro x; rfl
  | cons t ts ih => intro x; simp [encArgs, noRefs, hU.nr, ih]

theorem envOf_at {E : Env} (hU : UnivOK U E) {mods : FuncId → Option (Mod U)} {g : FuncId} {m : Mod U} (hm : mods g = some m) {F : List V → Option V} (hF : envOf mods g = some F) (x : Args U m.ts) : F (encArgs m.ts x) = (m.fn x).map (U.enc m.rt) := by
  unfold envOf at hF
  simp only [hm, Option.some.injEq] at hF
  subst hF
  have h : ∃ y : Args U m.ts, encArgs m.ts y = encArgs m.ts x := ⟨x, rfl⟩
  simp only [dif_pos h]
  rw [encArgs_inj hU m.ok (Classical.choose_spec h)]

theorem mdlOf_ok {E : Env} (hU : UnivOK U E) {mods : FuncId → Option (Mod U)} (henv : E.env = envOf mods) (hpar : ∀ g m, mods g = some m → E.par g = m.ts) (n : Nat) : MdlOK U (mdlOf mods) (callD E (n + 1)) := by
  intro g mm as t o r h1 h2 h3 args H hf
  unfold mdlOf at h1
  cases hm : mods g with
  | none => simp [hm] at h1
  | some m =>
    simp only [hm, Option.some.injEq] at h1
    subst h1
    simp only at h2
    split at h2
    · rename_i x hx
      simp only [Option.some.injEq, Sigma.mk.injEq] at h2
      obtain ⟨rfl, h2⟩ := h2
      have h2 := eq_of_heq h2
      have hF : ∃ F, E.env g = some F := by rw [henv]; unfold envOf; simp [hm]
      obtain ⟨F, hF⟩ := hF
      have hat := envOf_at hU hm (by rw [← henv]; exact hF) x
      unfold callD
      simp only [hF, hf, hpar g m hm, decArgs_ok hU hx, hat, h2, h3, Option.map_some]
    · cases h2

/-! ### what a call comes to -/

/-- What is known of a function. -/
structure FnOK (P : Program) (E : Env) (g : FuncId) (m : Mod U) : Prop where
  entered : Entered P g
  pure : ∀ x a, m.fn x = some a → PureFn P E g (encArgs m.ts x) (U.enc m.rt a)

theorem FnOK.glob {P : Program} {E E' : Env} (h : E'.glob = E.glob) {g : FuncId} {m : Mod U} (hf : FnOK P E g m) : FnOK P E' g m := by
  refine ⟨hf.entered, fun x a hx fz w vs hc hg hr => hf.pure x a hx fz w vs hc ?_ hr⟩
  intro g r hh
  exact hg g r (by rw [h]; exact hh)

theorem envFns_of {P : Program} {E : Env} (hU : UnivOK U E) {mods : FuncId → Option (Mod U)} (henv : E.env = envOf mods) (h : ∀ g m, mods g = some m → FnOK P E g m) : EnvFns P E := by
  intro g F hF
  have hm : ∃ m, mods g = some m := by
    rw [henv] at hF
    unfold envOf at hF
    cases hm : mods g with
    | none => simp [hm] at hF
    | some m => exact ⟨m, rfl⟩
  obtain ⟨m, hm⟩ := hm
  refine ⟨(h g m hm).entered, fun as r _ hr => ?_⟩
  have hF' := hF
  rw [henv] at hF
  unfold envOf at hF
  simp only [hm, Option.some.injEq] at hF
  subst hF
  simp only at hr
  split at hr
  · rename_i hx
    obtain ⟨x, hx'⟩ := hx
    subst hx'
    have := envOf_at hU hm (by rw [henv] at hF'; exact hF') x
    have hr' : (m.fn x).map (U.enc m.rt) = some r := by
      rw [← this]
      simp only [dif_pos (⟨x, rfl⟩ : ∃ y : Args U m.ts, encArgs m.ts y = encArgs m.ts x)]
      exact hr
    cases hfx : m.fn x with
    | none => simp [hfx] at hr'
    | some a =>
      simp only [hfx, Option.map_some, Option.some.injEq] at hr'
      subst hr'
      exact (h g m hm).pure x a hfx
  · cases hr

theorem pure_of_runs {P : Program} {E : Env} (hE : EnvOK E) (hP : E.P = P) (hF : EnvFns P E) {n : Nat} {f : FuncId} {fn : Func} (hfn : E.func f = some fn) {c : Code} (hb : fn.body = some c) {as : List V} {r : V}
    (h : RunsV (callD E n) E f fn (.run c) [] ⟨as ++ List.replicate (fn.ntmps - as.length) vundef, []⟩ r) : Entered P f ∧ PureFn P E f as r := by
  obtain ⟨hf1, hf2⟩ := hE.func f fn hfn
  rw [hP] at hf1
  refine ⟨⟨fn, hf1, by simp [hb], hf2⟩, ?_⟩
  intro fz w vs hcells hg hr
  have hI : Inv w.heap.size ⟨w, fz⟩ (bare fz) [] w := ⟨Below.refl _ w, Nat.le_refl _, fun id L hL => (by cases hL), fun id bx hb => by simp at hb, fun i j b1 b2 L1 L2 g h1 => by simp at h1, hcells,
    fun b c hc id bx L hb => by simp at hb, fun id bx hb => by simp at hb, fun b c hc _ => hc⟩
  have hslots : Reps (bare fz) w (as ++ List.replicate (fn.ntmps - as.length) vundef) (vs.toArray ++ Array.replicate (fn.ntmps - vs.toArray.size) undef).toList := by
    simp only [Array.toList_append, Array.toList_replicate, List.size_toArray]
    rw [← hr.length]
    exact hr.append (Reps.replicate _ (.no .nil))
  have hrel : Rel E w.heap.size ⟨w, fz⟩ (bare fz) ⟨as ++ List.replicate (fn.ntmps - as.length) vundef, []⟩ { tmps := vs.toArray ++ Array.replicate (fn.ntmps - vs.toArray.size) undef, defers := [] } w := ⟨hI, hg, hslots, rfl⟩
  have hwp := runs_ok hE hP (callD_ok hE hP hF n w.heap.size ⟨w, fz⟩) (callD_pure n) h (hE.calm f fn c hfn hb) rfl _ _ _ hrel (fun b c hh => hh)
  refine calls_of_wp hf1 hb ?_
  intro fr k cs
  obtain ⟨e, a', w', hq, harr⟩ := hwp fr k cs
  refine ⟨e, a', w', ?_, harr⟩
  cases e with
  | normal =>
    obtain ⟨h0, u, fz', h1, h2, h3, h4, h5, h6, h7⟩ := hq
    exact ⟨h0, u, h1, u, fz', rfl, h2, h3, h4, h5, h6, h7⟩
  | ret =>
    obtain ⟨h0, u, fz', h1, h2, h3, h4, h5, h6, h7⟩ := hq
    exact ⟨h0, u, h1, u, fz', rfl, h2, h3, h4, h5, h6, h7⟩
  | exit id => exact hq.elim
  | goto l => exact hq.elim
  | panic c => exact hq.elim
  | outgrown => exact hq.elim

/-! ### from trees to runs -/

theorem den_runs {L R : Type} {J : L → Option R} : ∀ {T : Tr U L} {r : R}, T.den J = some r → ∃ l, T.Runs l ∧ J l = some r := by
  intro T
  induction T with
  | leaf l => intro r h; exact ⟨l, rfl, h⟩
  | br c a b iha ihb =>
    intro r h
    cases c with
    | true => obtain ⟨l, h1, h2⟩ := iha h; exact ⟨l, .inl ⟨rfl, h1⟩, h2⟩
    | false => obtain ⟨l, h1, h2⟩ := ihb h; exact ⟨l, .inr ⟨rfl, h1⟩, h2⟩
  | bind t o k ih =>
    intro r h
    cases o with
    | none => cases h
    | some a => obtain ⟨l, h1, h2⟩ := ih a h; exact ⟨l, ⟨a, rfl, h1⟩, h2⟩
  | chk c a ih =>
    intro r h
    cases c with
    | true => obtain ⟨l, h1, h2⟩ := ih h; exact ⟨l, ⟨rfl, h1⟩, h2⟩
    | false => cases h
  | fail => intro r h; cases h

theorem runs_map {L M : Type} {g : L → M} : ∀ {T : Tr U L} {l : L}, T.Runs l → (T.map g).Runs (g l) := by
  intro T
  induction T with
  | leaf l => intro l h; simp only [Tr.Runs] at h; subst h; rfl
  | br c a b iha ihb =>
    intro l h
    rcases h with ⟨hc, h⟩ | ⟨hc, h⟩
    · exact .inl ⟨hc, iha h⟩
    · exact .inr ⟨hc, ihb h⟩
  | bind t o k ih => rintro l ⟨a, ha, h⟩; exact ⟨a, ha, ih a h⟩
  | chk c a ih => rintro l ⟨hc, h⟩; exact ⟨hc, ih h⟩
  | fail => intro l h; exact h

/-- A leaf of a tree beside what it is said to come to. -/
def LF (call : CallF) (E : Env) (f : FuncId) (fn : Func) (rt : Nat) : Type :=
  { x : Leaf U × Option (U.Ty rt) // ∀ r, x.2 = some r → LeafPost call E f fn x.1 (U.enc rt r) }

def LF.done {call : CallF} {E : Env} {f : FuncId} {fn : Func} {rt : Nat} (hU : UnivOK U E) (r : U.Ty rt) : LF (U := U) call E f fn rt :=
  ⟨(.done (U.encS rt r), some r), by rintro r' h; cases h; exact (hU.encS rt r).symm⟩
def LF.jump {call : CallF} {E : Env} {f : FuncId} {fn : Func} {rt : Nat} (c : Code) (K : List Fr) (st : SSt U) (o : Option (U.Ty rt)) (h : ∀ r, o = some r → RunsV call E f fn (.run c) K (toSt U st) (U.enc rt r)) : LF (U := U) call E f fn rt :=
  ⟨(.jump c K st, o), h⟩

/-- **A block.** -/
theorem blk {E : Env} {M : Mdl U} {A : Nat → Option (List Nat)} {call : CallF} (hU : UnivOK U E) (hM : MdlOK U M call) {f : FuncId} {fn : Func} {rt : Nat} {n : Nat} {c : Code} {K : List Fr} {st : SSt U} {sk : Bool} {o : Option (U.Ty rt)} (T : Tr U (LF (U := U) call E f fn rt))
    (hT : runT E M A f fn n (.run c) K st sk = T.map (·.1.1)) (hF : o = T.den (·.1.2)) {r : U.Ty rt} (h : o = some r) : RunsV call E f fn (.run c) K (toSt U st) (U.enc rt r) := by
  rw [hF] at h
  obtain ⟨l, h1, h2⟩ := den_runs h
  have h3 := runs_map (g := fun (x : LF (U := U) call E f fn rt) => x.1.1) h1
  rw [← hT] at h3
  exact runT_ok hU hM n _ _ _ _ _ h3 (l.2 r h2)

/-! ### code by its place -/

def nav : Code → List Nat → List Fr → Code × List Fr
  | .seq a b, 0 :: p, K => nav a p (.seq b :: K)
  | .seq a b, _ :: p, K => nav b p K
  | .cond _ a b, 0 :: p, K => nav a p K
  | .cond _ a b, _ :: p, K => nav b p K
  | .block id b, _ :: p, K => nav b p (.blk id :: K)
  | .loop b, _ :: p, K => nav b p (.loop b :: K)
  | c, _, K => (c, K)

def bodyOf (fn : Func) : Code := match fn.body with | some c => c | none => .skip

/-! ### what loops come to -/

open Classical in
noncomputable def limO {α : Type} (g : Nat → Option α) : Option α := if h : ∃ n a, g n = some a then g (Classical.choose h) else none

theorem limO_some {α : Type} {g : Nat → Option α} {a : α} (h : limO g = some a) : ∃ n, g n = some a := by
  unfold limO at h
  split at h
  · exact ⟨_, h⟩
  · cases h

def Mono {α : Type} (g : Nat → Option α) : Prop := ∀ n a, g n = some a → g (n + 1) = some a

theorem Mono.le {α : Type} {g : Nat → Option α} (hg : Mono g) {n m : Nat} {a : α} (h : g n = some a) (hle : n ≤ m) : g m = some a := by
  induction hle with
  | refl => exact h
  | step _ ih => exact hg _ _ ih

theorem limO_eq {α : Type} {g : Nat → Option α} (hg : Mono g) {n : Nat} {a : α} (h : g n = some a) : limO g = some a := by
  unfold limO
  have hex : ∃ n a, g n = some a := ⟨n, a, h⟩
  rw [dif_pos hex]
  obtain ⟨b, hb⟩ := Classical.choose_spec hex
  have h1 := hg.le h (Nat.le_max_left n (Classical.choose hex))
  have h2 := hg.le hb (Nat.le_max_right n (Classical.choose hex))
  rw [hb]
  rw [h1] at h2
  exact h2.symm

def LE2 (R : Type) : Type := { x : Option R × Option R // ∀ r, x.1 = some r → x.2 = some r }
def LE2.ret {R : Type} (r : R) : LE2 R := ⟨(some r, some r), fun _ h => h⟩
def LE2.jmp {R : Type} (a b : Option R) (h : ∀ r, a = some r → b = some r) : LE2 R := ⟨(a, b), h⟩

theorem den_mono {R : Type} : ∀ {T : Tr U (LE2 R)} {r : R}, T.den (·.1.1) = some r → T.den (·.1.2) = some r := by
  intro T
  induction T with
  | leaf l => intro r h; exact l.2 r h
  | br c a b iha ihb => intro r h; cases c with
    | true => exact iha h
    | false => exact ihb h
  | bind t o k ih => intro r h; cases o with
    | none => cases h
    | some a => exact ih a h
  | chk c a ih => intro r h; cases c with
    | true => exact ih h
    | false => cases h
  | fail => intro r h; cases h

theorem mono_blk {R : Type} {o1 o2 : Option R} (T : Tr U (LE2 R)) (h1 : o1 = T.den (·.1.1)) (h2 : o2 = T.den (·.1.2)) {r : R} (h : o1 = some r) : o2 = some r := by
  rw [h2]
  rw [h1] at h
  exact den_mono h

end

abbrev w64 (x : Int) : Int := IntKind.wrap .i64 x

end Go.Proofs.Ytcjccaonfgcakaa.Le
