/-
  A function's environment, and what is known of a function once its trees are.
-/
import Derived.Test.YtcjccaonfgcakaaLe31
namespace Go.Proofs.Ytcjccaonfgcakaa.Le
set_option linter.unusedVariables false

noncomputable def EV {U : Univ} (P : Program) (gl : Nat → Option (List V)) (f : FuncId) (mods : FuncId → Option (Mod U)) : Env :=
  { plainEnv P (fun _ => false) (envOf mods) with
    func := fun g => if g = f then P.funcs[g]? else none
    glob := gl
    par := fun g => match mods g with | some m => m.ts | none => [] }

section
variable {U : Univ} {P : Program} {gl : Nat → Option (List V)} {f : FuncId} {mods : FuncId → Option (Mod U)}

theorem EV_ok (hmix : P.follows .mixedOrders = true) {fn : Func} {c : Code} (hfn : P.funcs[f]? = some fn) (hname : (fn.name == "runtime.NumGoroutine") = false) (hb : fn.body = some c) (hcalm : calmC (EV P gl f mods) f c = true) : EnvOK (EV P gl f mods) := by
  refine ⟨fun t i h => h, ?_, hmix, ?_, ?_, ?_, ?_, fun t ks h => h, ?_⟩
  · intro g fn' h
    simp only [EV] at h
    split at h
    · rename_i hg
      subst hg
      rw [hfn] at h
      cases h
      exact ⟨hfn, hname⟩
    · cases h
  · intro g fn' c' h hb'
    simp only [EV] at h
    split at h
    · rename_i hg
      subst hg
      rw [hfn] at h
      cases h
      rw [hb] at hb'
      cases hb'
      exact hcalm
    · cases h
  · intro t k h
    simp only [EV, plainEnv] at h
    split at h
    · rename_i d hd
      simp only [Option.some.injEq] at h
      subst h
      exact hd
    · cases h
  · intro t h
    simp only [EV, plainEnv] at h
    split at h
    · rename_i hd; exact hd
    · cases h
  · intro t h
    simp only [EV, plainEnv] at h
    split at h
    · rename_i hd; exact hd
    · cases h
  · intro t h
    simp only [EV, plainEnv] at h
    split at h
    · rename_i e he
      split at h
      · rename_i hd; exact ⟨e, he, hd⟩
      · cases h
    · cases h

def encArgsS : (ts : List Nat) → Args U ts → List (SV U.Ty)
  | [], _ => []
  | t :: ts, x => U.encS t x.1 :: encArgsS ts x.2

/-- Where a call begins. -/
def entryS (ts : List Nat) (x : Args U ts) (n : Nat) : SSt U := ⟨encArgsS ts x ++ List.replicate (n - ts.length) .no, []⟩

theorem encArgsS_toV {E : Env} (hU : UnivOK U E) : ∀ {ts : List Nat} (x : Args U ts), toVs U (encArgsS ts x) = encArgs ts x := by
  intro ts
  induction ts with
  | nil => intro x; rfl
  | cons t ts ih => intro x; simp only [encArgsS, toVs, encArgs, hU.encS, ih]

theorem encArgs_length : ∀ {ts : List Nat} (x : Args U ts), (encArgs ts x).length = ts.length := by
  intro ts
  induction ts with
  | nil => intro x; rfl
  | cons t ts ih => intro x; simp [encArgs, ih]

theorem entryS_toV {E : Env} (hU : UnivOK U E) {ts : List Nat} (x : Args U ts) (n : Nat) : toSt U (entryS ts x n) = ⟨encArgs ts x ++ List.replicate (n - (encArgs ts x).length) vundef, []⟩ := by
  simp only [toSt, entryS, toVs_append, encArgsS_toV hU, encArgs_length]
  congr 1
  congr 1
  rw [toVs_map, List.map_replicate]
  rfl

/-- **What is known of a function.** -/
theorem fn_ok {E0 : Env} (hE0 : E0.glob = gl) (hU : UnivOK U (EV P gl f mods)) (hmix : P.follows .mixedOrders = true) {fn : Func} {c : Code} (hmods : ∀ g m, mods g = some m → FnOK P E0 g m) (hfn : P.funcs[f]? = some fn) (hname : (fn.name == "runtime.NumGoroutine") = false)
    (hb : fn.body = some c) (hcalm : calmC (EV P gl f mods) f c = true) (m : Mod U)
    (h : ∀ x a, m.fn x = some a → RunsV (callD (EV P gl f mods) 1) (EV P gl f mods) f fn (.run c) [] (toSt U (entryS m.ts x fn.ntmps)) (U.enc m.rt a)) : FnOK P E0 f m := by
  have hE := EV_ok (gl := gl) (mods := mods) hmix hfn hname hb hcalm
  have hF : EnvFns P (EV P gl f mods) := envFns_of hU rfl fun g m hm => (hmods g m hm).glob (by rw [hE0]; rfl)
  have hfn' : (EV P gl f mods).func f = some fn := by simp only [EV, if_true]; exact hfn
  have key : ∀ x a, m.fn x = some a → Entered P f ∧ PureFn P (EV P gl f mods) f (encArgs m.ts x) (U.enc m.rt a) := by
    intro x a hx
    have := h x a hx
    rw [entryS_toV hU] at this
    exact pure_of_runs hE rfl hF hfn' hb this
  refine ⟨⟨fn, hfn, by simp [hb], hname⟩, fun x a hx fz w vs hc hg hr => (key x a hx).2 fz w vs hc ?_ hr⟩
  intro g r hh
  exact hg g r (by rw [hE0]; exact hh)

theorem EV_mdl (hU : UnivOK U (EV P gl f mods)) : MdlOK U (mdlOf mods) (callD (EV P gl f mods) 1) :=
  mdlOf_ok hU rfl (fun g m h => by simp only [EV, h]) 0

end

/-! ### types of one kind -/

/-- The laws of a type of a universe. -/
structure TyOK (U : Univ) (E : Env) (t : Nat) : Prop where
  encS : ∀ a, toV U (U.encS t a) = U.enc t a
  dec : ∀ v a, U.decS t v = some a → retype (E.rows t) (toV U v) = U.enc t a
  cells : ∀ a, (U.enc t a).cells = toVs U (cellsS (U.encS t a))
  nr : ∀ a, noRef (U.enc t a) = true
  inj : ∀ a b, U.enc t a = U.enc t b → a = b

end Go.Proofs.Ytcjccaonfgcakaa.Le
