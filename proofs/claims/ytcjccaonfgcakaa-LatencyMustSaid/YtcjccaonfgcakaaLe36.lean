/-
  Functions without arguments, run by the kernel.
-/
import Derived.Test.YtcjccaonfgcakaaLe35
namespace Go.Proofs.Ytcjccaonfgcakaa.Le
set_option linter.unusedVariables false

noncomputable def EC (P : Program) (gl : Nat → Option (List V)) (fs : List FuncId) (pu : FuncId → Bool) : Env :=
  { plainEnv P pu (fun _ => none) with
    func := fun g => if fs.contains g then P.funcs[g]? else none
    glob := gl }

noncomputable def ecCheck (P : Program) (gl : Nat → Option (List V)) (fs : List FuncId) (pu : FuncId → Bool) : Bool :=
  fs.all fun g => match P.funcs[g]? with
    | some fn => !(fn.name == "runtime.NumGoroutine") && (match fn.body with | some c => calmC (EC P gl fs pu) g c | none => true)
    | none => true

theorem EC_ok {P : Program} {gl : Nat → Option (List V)} {fs : List FuncId} {pu : FuncId → Bool} (hmix : P.follows .mixedOrders = true) (hck : ecCheck P gl fs pu = true) : EnvOK (EC P gl fs pu) := by
  have hck := List.all_eq_true.1 hck
  refine ⟨fun t i h => h, ?_, hmix, ?_, ?_, ?_, ?_, fun t ks h => h, ?_⟩
  · intro g fn h
    simp only [EC] at h
    split at h
    · rename_i hg
      have := hck g (by simpa using hg)
      rw [h] at this
      simp only [Bool.and_eq_true, Bool.not_eq_true'] at this
      exact ⟨h, this.1⟩
    · cases h
  · intro g fn c h hb
    simp only [EC] at h
    split at h
    · rename_i hg
      have := hck g (by simpa using hg)
      rw [h] at this
      simp only [hb, Bool.and_eq_true] at this
      exact this.2
    · cases h
  · intro t k h
    simp only [EC, plainEnv] at h
    split at h
    · rename_i d hd
      simp only [Option.some.injEq] at h
      subst h
      exact hd
    · cases h
  · intro t h
    simp only [EC, plainEnv] at h
    split at h
    · rename_i hd; exact hd
    · cases h
  · intro t h
    simp only [EC, plainEnv] at h
    split at h
    · rename_i hd; exact hd
    · cases h
  · intro t h
    simp only [EC, plainEnv] at h
    split at h
    · rename_i e he
      split at h
      · rename_i hd; exact ⟨e, he, hd⟩
      · cases h
    · cases h

theorem trodAll_len {H : Type} {enc : TypeId × Value → H} {P : Program} {w : World} {base : Nat} {spare : Nat → Bool} {held : Bool} : ∀ {ts : List TypeId} {vs : List Value} {ds : List (DataW H)} {ps : List MemPlace}, DataW.TrodAll enc P w base spare held ts vs ds ps → ds.length = ts.length
  | [], [], [], _, _ => rfl
  | _ :: _, _ :: _, _ :: _, _, ⟨_, _, _, h, _⟩ => congrArg (· + 1) (trodAll_len h)

/-- A function without arguments that the kernel has run. -/
theorem closed_ok {U : Univ} {P : Program} {gl : Nat → Option (List V)} {fs : List FuncId} {pu : FuncId → Bool} {E0 : Env} (hE0 : E0.glob = gl) (hmix : P.follows .mixedOrders = true) (hck : ecCheck P gl fs pu = true) {f : FuncId} (hf : fs.contains f = true) (hp : pu f = true) {fn : Func} (hfn : P.funcs[f]? = some fn)
    (hb : fn.body.isNone = false) {n : Nat} {m : Mod U} (hts : m.ts = []) {a : U.Ty m.rt} (hm : ∀ x, m.fn x = some a) (h : (callD (EC P gl fs pu) (n + 1) f [] []).map (·.1) = some (U.enc m.rt a)) : FnOK P E0 f m := by
  have hE := EC_ok hmix hck
  have hname : (fn.name == "runtime.NumGoroutine") = false := (hE.func f fn (by simp only [EC, hf, if_true]; exact hfn)).2
  refine ⟨⟨fn, hfn, hb, hname⟩, fun x a' hx => ?_⟩
  rw [hm x] at hx
  cases hx
  cases hc : callD (EC P gl fs pu) (n + 1) f [] [] with
  | none => simp [hc] at h
  | some rr =>
    obtain ⟨r, H'⟩ := rr
    simp only [hc, Option.map_some, Option.some.injEq] at h
    subst h
    have hpf := pureFn_of hE rfl (fun g F hF => by cases hF) hp rfl rfl hc
    have he : encArgs m.ts x = [] := by
      have hl := encArgs_length x
      exact List.eq_nil_of_length_eq_zero (by rw [hl, congrArg List.length hts]; rfl)
    rw [he]
    intro fz w vs hcells hg hr
    exact hpf fz w vs hcells (fun g r hh => hg g r (by rw [hE0]; exact hh)) hr

end Go.Proofs.Ytcjccaonfgcakaa.Le
