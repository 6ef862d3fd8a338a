/-
  A function's blocks as one flow: what it comes to, its equation, and that calls come to it.
-/
import Derived.Test.YtcjccaonfgcakaaLe32
namespace Go.Proofs.Ytcjccaonfgcakaa.Le
set_option linter.unusedVariables false

section
variable {U : Univ} {R P : Type}

def flowJ {R P : Type} (g : P → Option R) : R ⊕ P → Option R
  | .inl r => some r
  | .inr q => g q

def flowN (T : P → Tr U (R ⊕ P)) : Nat → P → Option R
  | 0, _ => none
  | n + 1, p => (T p).den (flowJ (flowN T n))

noncomputable def flow (T : P → Tr U (R ⊕ P)) (p : P) : Option R := limO fun n => flowN T n p

theorem den_le {L : Type} {J K : L → Option R} (h : ∀ l r, J l = some r → K l = some r) : ∀ {T : Tr U L} {r : R}, T.den J = some r → T.den K = some r := by
  intro T
  induction T with
  | leaf l => intro r hr; exact h l r hr
  | br c a b iha ihb => intro r hr; cases c with
    | true => exact iha hr
    | false => exact ihb hr
  | bind t o k ih => intro r hr; cases o with
    | none => cases hr
    | some a => exact ih a hr
  | chk c a ih => intro r hr; cases c with
    | true => exact ih hr
    | false => cases hr
  | fail => intro r hr; cases hr

theorem flowN_mono (T : P → Tr U (R ⊕ P)) : ∀ n p r, flowN T n p = some r → flowN T (n + 1) p = some r := by
  intro n
  induction n with
  | zero => intro p r h; cases h
  | succ n ih =>
    intro p r h
    refine den_le ?_ h
    intro l r hl
    cases l with
    | inl a => exact hl
    | inr q => exact ih q r hl

theorem flow_of (T : P → Tr U (R ⊕ P)) {n : Nat} {p : P} {r : R} (h : flowN T n p = some r) : flow T p = some r :=
  limO_eq (fun n a h => flowN_mono T n p a h) h

/-- **The equation of a flow.** -/
theorem flow_eq (T : P → Tr U (R ⊕ P)) (p : P) : flow T p = (T p).den (flowJ (flow T)) := by
  have h1 : ∀ r, flow T p = some r → (T p).den (flowJ (flow T)) = some r := by
    intro r h
    obtain ⟨n, hn⟩ := limO_some h
    cases n with
    | zero => cases hn
    | succ n =>
      refine den_le ?_ hn
      intro l r hl
      cases l with
      | inl a => exact hl
      | inr q => exact flow_of T hl
  have h2 : ∀ r, (T p).den (flowJ (flow T)) = some r → flow T p = some r := by
    intro r h
    obtain ⟨l, hl, hr⟩ := den_runs h
    have key : ∃ n, (T p).den (flowJ (flowN T n)) = some r := by
      have hn : ∃ n, flowJ (flowN T n) l = some r := by
        cases l with
        | inl a => exact ⟨0, hr⟩
        | inr q => obtain ⟨n, hn⟩ := limO_some hr; exact ⟨n, hn⟩
      obtain ⟨n, hn⟩ := hn
      refine ⟨n, ?_⟩
      have : ∀ (X : Tr U (R ⊕ P)), X.Runs l → X.den (flowJ (flowN T n)) = some r := by
        intro X
        induction X with
        | leaf x => intro hx; simp only [Tr.Runs] at hx; subst hx; exact hn
        | br c a b iha ihb =>
          rintro (⟨rfl, hx⟩ | ⟨rfl, hx⟩)
          · exact iha hx
          · exact ihb hx
        | bind t o k ih => rintro ⟨a, rfl, hx⟩; exact ih a hx
        | chk c a ih => rintro ⟨rfl, hx⟩; exact ih hx
        | fail => intro hx; exact hx.elim
      exact this _ hl
    obtain ⟨n, hn⟩ := key
    exact flow_of T (n := n + 1) hn
  cases ha : flow T p with
  | some r => exact (h1 r ha).symm
  | none =>
    cases hb : (T p).den (flowJ (flow T)) with
    | none => rfl
    | some r => rw [h2 r hb] at ha; cases ha

/-- Where a block begins: its code, what comes behind it, its state, whether its first mark is passed over. -/
structure Spot (U : Univ) where
  c : Code
  K : List Fr
  st : SSt U
  sk : Bool

def leafOf {rt : Nat} (sp : P → Spot U) : U.Ty rt ⊕ P → Leaf U
  | .inl r => .done (U.encS rt r)
  | .inr q => .jump (sp q).c (sp q).K (sp q).st

theorem flow_runs {E : Env} {M : Mdl U} {A : Nat → Option (List Nat)} {call : CallF} (hU : UnivOK U E) (hM : MdlOK U M call) {f : FuncId} {fn : Func} {rt : Nat} {N : Nat} (T : P → Tr U (U.Ty rt ⊕ P)) (sp : P → Spot U)
    (h : ∀ p, runT E M A f fn N (.run (sp p).c) (sp p).K (sp p).st (sp p).sk = (T p).map (leafOf sp)) {p : P} {r : U.Ty rt} (hr : flow T p = some r) : RunsV call E f fn (.run (sp p).c) (sp p).K (toSt U (sp p).st) (U.enc rt r) := by
  obtain ⟨n, hn⟩ := limO_some hr
  clear hr
  induction n generalizing p r with
  | zero => cases hn
  | succ n ih =>
    obtain ⟨l, h1, h2⟩ := den_runs hn
    have h3 := runs_map (g := leafOf sp) h1
    rw [← h p] at h3
    refine runT_ok hU hM N _ _ _ _ _ h3 ?_
    cases l with
    | inl a =>
      simp only [flowJ, Option.some.injEq] at h2
      subst h2
      exact (hU.encS rt a).symm
    | inr q => exact ih h2

end

/-- **A function that is given as a flow.** -/
theorem fn_flow {U : Univ} {P : Program} {gl : Nat → Option (List V)} {f : FuncId} {mods : FuncId → Option (Mod U)} {E0 : Env} (hE0 : E0.glob = gl) (hU : UnivOK U (EV P gl f mods)) (hmix : P.follows .mixedOrders = true) {fn : Func} {c : Code}
    (hmods : ∀ g m, mods g = some m → FnOK P E0 g m) (hfn : P.funcs[f]? = some fn) (hname : (fn.name == "runtime.NumGoroutine") = false) (hb : fn.body = some c) (hcalm : calmC (EV P gl f mods) f c = true) (m : Mod U)
    {Pt : Type} {A : Nat → Option (List Nat)} {N : Nat} (T : Pt → Tr U (U.Ty m.rt ⊕ Pt)) (sp : Pt → Spot U)
    (h : ∀ p, runT (EV P gl f mods) (mdlOf mods) A f fn N (.run (sp p).c) (sp p).K (sp p).st (sp p).sk = (T p).map (leafOf sp)) (b0 : Args U m.ts → Pt) (hm : ∀ x, m.fn x = flow T (b0 x)) (hsp : ∀ x, sp (b0 x) = ⟨c, [], entryS m.ts x fn.ntmps, false⟩) : FnOK P E0 f m := by
  refine fn_ok hE0 hU hmix hmods hfn hname hb hcalm m fun x a hx => ?_
  rw [hm] at hx
  have := flow_runs hU (EV_mdl hU) T sp h hx
  rw [hsp] at this
  exact this

end Go.Proofs.Ytcjccaonfgcakaa.Le
