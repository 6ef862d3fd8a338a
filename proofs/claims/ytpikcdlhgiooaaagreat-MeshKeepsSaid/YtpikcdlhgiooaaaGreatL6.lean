/-
  How values of Lean's types lie in cells: codes for scalars, rows of fields, lists.
-/
import Derived.Test.YtpikcdlhgiooaaaGreatL5
import Derived.OpenShut
import Derived.Carry
import Derived.ProofKit
namespace Go.Proofs.YtpikcdlhgiooaaaGreat.Le
set_option linter.unusedVariables false

structure Codec (Ty : Nat → Type) (T : Type) where
  encV : T → List V
  encS : T → List (SV Ty)
  dec : List (SV Ty) → Option (T × List (SV Ty))

section
variable {Ty : Nat → Type}

def Codec.int (k : IntKind) : Codec Ty Int where
  encV := fun a => [.lit (.int k a)]
  encS := fun a => [.si k a]
  dec := fun cs => match cs with
    | .si j a :: r => if j = k then some (a, r) else none
    | .lit (.int j a) :: r => if j = k then some (a, r) else none
    | _ => none
def Codec.bool : Codec Ty Bool where
  encV := fun b => [.lit (.bool b)]
  encS := fun b => [.sb b]
  dec := fun cs => match cs with
    | .sb b :: r => some (b, r)
    | .lit (.bool b) :: r => some (b, r)
    | _ => none
def Codec.str : Codec Ty ByteArray where
  encV := fun b => [.lit (.string b)]
  encS := fun b => [.ss b]
  dec := fun cs => match cs with
    | .ss b :: r => some (b, r)
    | .lit (.string b) :: r => some (b, r)
    | _ => none
def Codec.list (t n : Nat) (e : Ty t → V) : Codec Ty (List (Ty t)) where
  encV := fun xs => [.sl false n (xs.map e)]
  encS := fun xs => [.sl t xs]
  dec := fun cs => match cs with
    | .sl t' xs :: r => if h : t' = t then some (h ▸ xs, r) else none
    | .nil _ :: r => some ([], r)
    | _ => none
def Codec.unit : Codec Ty Unit where
  encV := fun _ => []
  encS := fun _ => []
  dec := fun cs => some ((), cs)
def Codec.pair {A B : Type} (a : Codec Ty A) (b : Codec Ty B) : Codec Ty (A × B) where
  encV := fun x => a.encV x.1 ++ b.encV x.2
  encS := fun x => a.encS x.1 ++ b.encS x.2
  dec := fun cs => match a.dec cs with
    | some (x, r) => match b.dec r with | some (y, r') => some ((x, y), r') | none => none
    | none => none
def Codec.iso {A B : Type} (f : A → B) (g : B → A) (b : Codec Ty B) : Codec Ty A where
  encV := fun x => b.encV (f x)
  encS := fun x => b.encS (f x)
  dec := fun cs => match b.dec cs with | some (y, r) => some (g y, r) | none => none

def Codec.agg {T : Type} (c : Codec Ty T) (v : SV Ty) : Option T := match v with
  | .agg cs => match c.dec cs with | some (a, []) => some a | _ => none
  | _ => none
def Codec.one {T : Type} (c : Codec Ty T) (v : SV Ty) : Option T := match c.dec [v] with | some (a, []) => some a | _ => none
def Codec.oneV {T : Type} (c : Codec Ty T) (a : T) : V := (c.encV a).headD .no
def Codec.oneS {T : Type} (c : Codec Ty T) (a : T) : SV Ty := (c.encS a).headD .no
end

structure CodecOK (U : Univ) {T : Type} (c : Codec U.Ty T) (rs : List Nat) : Prop where
  enc : ∀ a, toVs U (c.encS a) = c.encV a
  len : ∀ a, (c.encV a).length = rs.length
  dec : ∀ cs a rest, c.dec cs = some (a, rest) → ∃ pre, cs = pre ++ rest ∧ pre.length = rs.length ∧ retypeL rs (toVs U pre) = c.encV a
  nr : ∀ a, noRefs (c.encV a) = true
  inj : ∀ a b, c.encV a = c.encV b → a = b

section
variable {U : Univ}

theorem CodecOK.int (k : IntKind) : CodecOK U (Codec.int k : Codec U.Ty Int) [0] := by
  refine ⟨fun a => rfl, fun a => rfl, ?_, fun a => rfl, fun a b h => by simpa [Codec.int] using h⟩
  intro cs a rest h
  simp only [Codec.int] at h
  split at h
  · rename_i j x r
    split at h
    · rename_i hj
      simp only [Option.some.injEq, Prod.mk.injEq] at h
      obtain ⟨rfl, rfl⟩ := h
      subst hj
      exact ⟨[_], rfl, rfl, rfl⟩
    · cases h
  · rename_i j x r
    split at h
    · rename_i hj
      simp only [Option.some.injEq, Prod.mk.injEq] at h
      obtain ⟨rfl, rfl⟩ := h
      subst hj
      exact ⟨[_], rfl, rfl, rfl⟩
    · cases h
  · cases h

theorem CodecOK.bool : CodecOK U (Codec.bool : Codec U.Ty Bool) [0] := by
  refine ⟨fun a => rfl, fun a => rfl, ?_, fun a => rfl, fun a b h => by simpa [Codec.bool] using h⟩
  intro cs a rest h
  simp only [Codec.bool] at h
  split at h <;> cases h <;> exact ⟨[_], rfl, rfl, rfl⟩

theorem CodecOK.str : CodecOK U (Codec.str : Codec U.Ty ByteArray) [0] := by
  refine ⟨fun a => rfl, fun a => rfl, ?_, fun a => rfl, fun a b h => by simpa [Codec.str] using h⟩
  intro cs a rest h
  simp only [Codec.str] at h
  split at h <;> cases h <;> exact ⟨[_], rfl, rfl, rfl⟩

theorem map_inj {α β : Type} {f : α → β} (hf : ∀ a b, f a = f b → a = b) : ∀ {xs ys : List α}, xs.map f = ys.map f → xs = ys := by
  intro xs
  induction xs with
  | nil => simp_all
  | cons x xs ih => intro ys h; cases ys with
    | nil => simp at h
    | cons y ys =>
      grind

theorem CodecOK.list {t n : Nat} {e : U.Ty t → V} (he : ∀ a, U.enc t a = e a) (hn : U.esz t = n) (hnr : ∀ a, noRef (e a) = true) (hinj : ∀ a b, e a = e b → a = b) : CodecOK U (Codec.list t n e : Codec U.Ty (List (U.Ty t))) [n] := by
  have hmap : ∀ xs : List (U.Ty t), xs.map (U.enc t) = xs.map e := fun xs => List.map_congr_left fun a _ => he a
  refine ⟨fun a => ?_, fun a => rfl, ?_, fun a => ?_, fun a b h => ?_⟩
  · simp [Codec.list, toVs, toV, hn, hmap]
  · intro cs a rest h
    simp only [Codec.list] at h
    split at h
    · rename_i t' xs r
      split at h
      · rename_i ht
        subst ht
        simp only [Option.some.injEq, Prod.mk.injEq] at h
        obtain ⟨rfl, rfl⟩ := h
        exact ⟨[_], rfl, rfl, by simp [toVs, toV, retypeL, retype1, Codec.list, hn, hmap]⟩
      · cases h
    · cases h
      exact ⟨[_], rfl, rfl, by simp [toVs, toV, retypeL, retype1, Codec.list]⟩
    · cases h
  · simp only [Codec.list, noRefs, noRef, Bool.and_true]
    rw [noRefs_iff]
    simp_all
  · simp only [Codec.list, List.cons.injEq, V.sl.injEq, true_and, and_true] at h
    exact map_inj hinj h

theorem CodecOK.unit : CodecOK U (Codec.unit : Codec U.Ty Unit) [] :=
  ⟨fun a => rfl, fun a => rfl, fun cs a rest h => by cases h; exact ⟨[], rfl, rfl, rfl⟩, fun a => rfl, fun a b _ => rfl⟩

theorem retypeL_append : ∀ (r1 r2 : List Nat) (x y : List V), x.length = r1.length → retypeL (r1 ++ r2) (x ++ y) = retypeL r1 x ++ retypeL r2 y := by
  intro r1
  induction r1 with
  | nil => intro r2 x y h; cases x with
    | nil => simp [retypeL]
    | cons => simp at h
  | cons r r1 ih => intro r2 x y h; cases x with
    | nil => simp at h
    | cons v x => simp [retypeL, ih r2 x y (by simpa using h)]

theorem noRefs_append (x y : List V) : noRefs (x ++ y) = (noRefs x && noRefs y) := by
  induction x with
  | nil => simp [noRefs]
  | cons a x ih => simp [noRefs, ih, Bool.and_assoc]

theorem CodecOK.pair {A B : Type} {a : Codec U.Ty A} {b : Codec U.Ty B} {r1 r2 : List Nat} (ha : CodecOK U a r1) (hb : CodecOK U b r2) : CodecOK U (Codec.pair a b) (r1 ++ r2) := by
  refine ⟨fun x => ?_, fun x => ?_, ?_, fun x => ?_, fun x y h => ?_⟩
  · simp only [Codec.pair, toVs_append, ha.enc, hb.enc]
  · simp only [Codec.pair, List.length_append, ha.len, hb.len]
  · intro cs x rest h
    simp only [Codec.pair] at h
    split at h
    · rename_i p r hp
      split at h
      · rename_i q r' hq
        cases h
        obtain ⟨p1, e1, l1, t1⟩ := ha.dec _ _ _ hp
        obtain ⟨p2, e2, l2, t2⟩ := hb.dec _ _ _ hq
        refine ⟨p1 ++ p2, by simp_all, by simp [l1, l2], ?_⟩
        rw [toVs_append, retypeL_append _ _ _ _ (by rw [length_toVs]; exact l1), t1, t2]
        rfl
      · cases h
    · cases h
  · simp only [Codec.pair, noRefs_append, ha.nr, hb.nr, Bool.and_self]
  · simp only [Codec.pair] at h
    obtain ⟨h1, h2⟩ := List.append_inj h (by rw [ha.len, ha.len])
    obtain ⟨x1, x2⟩ := x
    obtain ⟨y1, y2⟩ := y
    exact Prod.ext (ha.inj _ _ h1) (hb.inj _ _ h2)

theorem CodecOK.iso {A B : Type} {f : A → B} {g : B → A} {b : Codec U.Ty B} {r : List Nat} (hb : CodecOK U b r) (hfg : ∀ y, f (g y) = y) (hgf : ∀ x, g (f x) = x) : CodecOK U (Codec.iso f g b) r := by
  refine ⟨fun x => hb.enc _, fun x => hb.len _, ?_, fun x => hb.nr _, fun x y h => ?_⟩
  · intro cs x rest h
    simp only [Codec.iso] at h
    split at h
    · rename_i y r' hy
      cases h
      obtain ⟨p, e, l, t⟩ := hb.dec _ _ _ hy
      exact ⟨p, e, l, by simp only [Codec.iso, hfg]; exact t⟩
    · cases h
  · have := hb.inj _ _ h
    grind

theorem CodecOK.agg {T : Type} {c : Codec U.Ty T} {r : List Nat} (h : CodecOK U c r) {v : SV U.Ty} {a : T} (hd : c.agg v = some a) : retype r (toV U v) = .agg (c.encV a) := by
  unfold Codec.agg at hd
  split at hd
  · split at hd
    · rename_i cs _ hcs
      cases hd
      obtain ⟨p, e, l, t⟩ := h.dec _ _ _ hcs
      simp only [List.append_nil] at e
      subst e
      simp only [toV, retype, t]
    · cases hd
  · cases hd

theorem CodecOK.one {T : Type} {c : Codec U.Ty T} {n : Nat} (h : CodecOK U c [n]) {v : SV U.Ty} {a : T} (hd : c.one v = some a) (hv : ∀ cs, toV U v ≠ .agg cs) : retype [n] (toV U v) = c.oneV a := by
  unfold Codec.one at hd
  split at hd
  · rename_i hcs
    cases hd
    obtain ⟨p, e, l, t⟩ := h.dec _ _ _ hcs
    simp only [List.append_nil] at e
    subst e
    simp only [toVs, retypeL] at t
    unfold Codec.oneV
    rw [← t]
    unfold retype
    grind
  · cases hd

theorem na_int {k : IntKind} {v : SV U.Ty} {a : Int} (h : (Codec.int k : Codec U.Ty Int).one v = some a) : ∀ cs, toV U v ≠ .agg cs := by
  rintro cs hc
  cases v <;> simp_all [toV, Codec.one, Codec.int]
theorem na_bool {v : SV U.Ty} {a : Bool} (h : (Codec.bool : Codec U.Ty Bool).one v = some a) : ∀ cs, toV U v ≠ .agg cs := by
  rintro cs hc
  cases v <;> simp_all [toV, Codec.one, Codec.bool]
theorem na_str {v : SV U.Ty} {a : ByteArray} (h : (Codec.str : Codec U.Ty ByteArray).one v = some a) : ∀ cs, toV U v ≠ .agg cs := by
  rintro cs hc
  cases v <;> simp_all [toV, Codec.one, Codec.str]
theorem na_list {t n : Nat} {e : U.Ty t → V} {v : SV U.Ty} {a : List (U.Ty t)} (h : (Codec.list t n e : Codec U.Ty (List (U.Ty t))).one v = some a) : ∀ cs, toV U v ≠ .agg cs := by
  rintro cs hc
  cases v <;> simp_all [toV, Codec.one, Codec.list]

theorem CodecOK.oneEnc {T : Type} {c : Codec U.Ty T} {n : Nat} (h : CodecOK U c [n]) (a : T) : toV U (c.oneS a) = c.oneV a := by
  unfold Codec.oneS Codec.oneV
  rw [← h.enc a]
  have hl := h.len a
  rw [← h.enc a, length_toVs] at hl
  cases hs : c.encS a with
  | nil => simp_all
  | cons x xs => rfl

theorem CodecOK.oneInj {T : Type} {c : Codec U.Ty T} {n : Nat} (h : CodecOK U c [n]) {a b : T} (he : c.oneV a = c.oneV b) : a = b := by
  refine h.inj a b ?_
  have h1 := h.len a
  have h2 := h.len b
  unfold Codec.oneV at he
  cases ha : c.encV a with
  | nil => simp_all
  | cons x xs =>
    cases hb : c.encV b with
    | nil => simp_all
    | cons y ys =>
      simp_all

theorem CodecOK.oneNr {T : Type} {c : Codec U.Ty T} {n : Nat} (h : CodecOK U c [n]) (a : T) : noRef (c.oneV a) = true := by
  have := h.nr a
  unfold Codec.oneV
  cases ha : c.encV a with
  | nil => rfl
  | cons x xs => rw [ha] at this; simp [noRefs] at this; exact this.1

end


/-! ### what a call sees of a variable whose address it is given -/

def Codec.skip {Ty : Nat → Type} : Codec Ty Unit where
  encV := fun _ => [.und]
  encS := fun _ => [.und]
  dec := fun cs => match cs with
    | .und :: r => some ((), r)
    | _ => none
theorem CodecOK.skip {U : Univ} : CodecOK U (Codec.skip : Codec U.Ty Unit) [0] := by
  refine ⟨fun a => rfl, fun a => rfl, ?_, fun a => rfl, fun a b _ => rfl⟩
  intro cs a rest h
  simp only [Codec.skip] at h
  split at h <;> cases h
  exact ⟨[_], rfl, rfl, rfl⟩

def rawS {Ty : Nat → Type} : V → SV Ty
  | .lit v => .lit v
  | .und => .und
  | _ => .no
def rawOK : V → Bool
  | .lit _ => true
  | .und => true
  | _ => false
def Codec.ptrV {Ty : Nat → Type} {T : Type} (c : Codec Ty T) (n : Nat) (a : T) : V := .ept n [.agg (c.encV a)] 0 0
def Codec.ptrD {Ty : Nat → Type} {T : Type} (c : Codec Ty T) (n : Nat) (v : SV Ty) : Option T := match v with
  | .raw (.ept m [.agg cs] 0 0) => if m = n ∧ cs.all rawOK = true then c.agg (.agg (cs.map rawS)) else none
  | _ => none

/-- A variable of one scalar. -/
def Codec.ptrV1 {Ty : Nat → Type} {T : Type} (c : Codec Ty T) (n : Nat) (a : T) : V := .ept n (c.encV a) 0 0
def Codec.ptrD1 {Ty : Nat → Type} {T : Type} (c : Codec Ty T) (n : Nat) (v : SV Ty) : Option T := match v with
  | .raw (.ept m [.lit z] 0 0) => if m = n then (match c.dec [.lit z] with | some (a, []) => some a | _ => none) else none
  | _ => none
theorem CodecOK.ptr1_dec {U : Univ} {T : Type} {c : Codec U.Ty T} {r : List Nat} (h : CodecOK U c r) {n : Nat} {v : SV U.Ty} {a : T} (hd : c.ptrD1 n v = some a) (rs : List Nat) : retype rs (toV U v) = c.ptrV1 n a := by
  unfold Codec.ptrD1 at hd
  split at hd
  · rename_i m z
    split at hd
    · rename_i hc
      subst hc
      split at hd
      · rename_i a' ha
        cases hd
        obtain ⟨pre, h1, h2, h3⟩ := h.dec _ _ _ ha
        rw [List.append_nil] at h1
        subst h1
        have : c.encV a = [V.lit z] := by
          rw [← h3]
          cases r with
          | nil => simp_all
          | cons a b => cases b <;> simp [toVs, toV, retypeL, retype1]
        simp only [toV, retype, retype1, Codec.ptrV1, this]
      · cases hd
    · cases hd
  · cases hd
theorem CodecOK.ptr1_nr {U : Univ} {T : Type} {c : Codec U.Ty T} {r : List Nat} (h : CodecOK U c r) (n : Nat) (a : T) : noRef (c.ptrV1 n a) = true := by
  simp [Codec.ptrV1, noRef, h.nr]
theorem CodecOK.ptr1_inj {U : Univ} {T : Type} {c : Codec U.Ty T} {r : List Nat} (h : CodecOK U c r) {n : Nat} {a b : T} (he : c.ptrV1 n a = c.ptrV1 n b) : a = b := by
  simp only [Codec.ptrV1, V.ept.injEq, and_true, true_and] at he
  exact h.inj _ _ he

theorem rawS_toV {U : Univ} : ∀ {cs : List V}, cs.all rawOK = true → toVs U (cs.map rawS) = cs := by
  intro cs
  induction cs with
  | nil => intro _; rfl
  | cons c cs ih =>
    intro h
    simp only [List.all_cons, Bool.and_eq_true] at h
    simp only [List.map_cons, toVs, ih h.2]
    cases c <;> simp_all [rawOK, rawS, toV]
theorem raw_retype : ∀ {cs : List V}, cs.all rawOK = true → ∀ rs, retypeL rs cs = cs := by
  intro cs
  induction cs with
  | nil => intro _ rs; cases rs <;> rfl
  | cons c cs ih =>
    intro h rs
    simp only [List.all_cons, Bool.and_eq_true] at h
    cases rs with
    | nil => rfl
    | cons r rs =>
      simp only [retypeL, ih h.2]
      cases c <;> simp_all [rawOK, retype1]

theorem CodecOK.ptr_dec {U : Univ} {T : Type} {c : Codec U.Ty T} {r : List Nat} (h : CodecOK U c r) {n : Nat} {v : SV U.Ty} {a : T} (hd : c.ptrD n v = some a) (rs : List Nat) : retype rs (toV U v) = c.ptrV n a := by
  unfold Codec.ptrD at hd
  split at hd
  · rename_i m cs
    split at hd
    · rename_i hc
      obtain ⟨rfl, hall⟩ := hc
      have := h.agg hd
      simp only [toV, retype, rawS_toV hall, V.agg.injEq] at this
      rw [raw_retype hall] at this
      simp only [toV, retype, retype1, Codec.ptrV, this]
    · cases hd
  · cases hd
theorem CodecOK.ptr_nr {U : Univ} {T : Type} {c : Codec U.Ty T} {r : List Nat} (h : CodecOK U c r) (n : Nat) (a : T) : noRef (c.ptrV n a) = true := by
  simp [Codec.ptrV, noRef, noRefs, h.nr]
theorem CodecOK.ptr_inj {U : Univ} {T : Type} {c : Codec U.Ty T} {r : List Nat} (h : CodecOK U c r) {n : Nat} {a b : T} (he : c.ptrV n a = c.ptrV n b) : a = b := by
  simp only [Codec.ptrV, V.ept.injEq, List.cons.injEq, V.agg.injEq, and_true, true_and] at he
  exact h.inj _ _ he

end Go.Proofs.YtpikcdlhgiooaaaGreat.Le

/-
  A function's environment, and what is known of a function once its trees are.
-/
namespace Go.Proofs.YtpikcdlhgiooaaaGreat.Le
set_option linter.unusedVariables false

noncomputable def EV0 {U : Univ} (P : Program) (gl : Nat → Option (List V)) (f : FuncId) (mods : FuncId → Option (Mod U)) (hmods : FuncId → List FuncId → Option (HMod U)) (mk : Makers P) : Env :=
  { plainEnv P (fun _ => false) (envOf mods) with
    func := fun g => if g = f then P.funcs[g]? else none
    glob := gl
    hm := envH hmods
    maps := mk.tab
    par := fun g => match mods g with | some m => m.ts | none => [] }
/-- Whether a region of a function draws its order and calls what is in a slot. -/
def quietOf (E : Env) (P : Program) (f : FuncId) : Bool := match (P.funcs[f]?).bind (·.body) with | some c => !calmC E f c | none => false
noncomputable def EV {U : Univ} (P : Program) (gl : Nat → Option (List V)) (f : FuncId) (mods : FuncId → Option (Mod U)) (hmods : FuncId → List FuncId → Option (HMod U)) (mk : Makers P) : Env :=
  { EV0 P gl f mods hmods mk with quiet := quietOf (EV0 P gl f mods hmods mk) P f }

section
variable {U : Univ} {P : Program} {gl : Nat → Option (List V)} {f : FuncId} {mods : FuncId → Option (Mod U)} {hmods : FuncId → List FuncId → Option (HMod U)} {mk : Makers P}

theorem EV_ok (hmix : P.follows .mixedOrders = true) {fn : Func} {c : Code} (hfn : P.funcs[f]? = some fn) (hname : (fn.name == "runtime.NumGoroutine") = false) (hb : fn.body = some c) (hcalm : calmC (EV P gl f mods hmods mk) f c = true) : EnvOK (EV P gl f mods hmods mk) := by
  refine ⟨fun t i h => h, ?_, hmix, ?_, ?_, ?_, ?_, fun t ks h => h, ?_⟩
  · intro g fn' h
    simp only [EV, EV0] at h
    split at h
    · rename_i hg
      subst hg
      rw [hfn] at h
      cases h
      exact ⟨hfn, hname⟩
    · cases h
  · intro g fn' c' h hb'
    simp only [EV, EV0] at h
    simp_all
  · intro t k h
    simp only [EV, EV0, plainEnv] at h
    split at h
    · rename_i d hd
      simp only [Option.some.injEq] at h
      subst h
      exact hd
    · cases h
  · intro t h
    simp only [EV, EV0, plainEnv] at h
    split at h
    · rename_i hd; exact hd
    · cases h
  · intro t h
    simp only [EV, EV0, plainEnv] at h
    split at h
    · rename_i hd; exact hd
    · cases h
  · intro t h
    simp only [EV, EV0, plainEnv] at h
    split at h
    · rename_i e he
      split at h
      · rename_i hd; exact ⟨e, he, hd⟩
      · cases h
    · cases h

def encArgsS : (ts : List Nat) → Args U ts → List (SV U.Ty)
  | [], _ => []
  | t :: ts, x => U.encS t x.1 :: encArgsS ts x.2

/-- Where a call begins. -/
def entryS (ts : List Nat) (x : Args U ts) (n : Nat) : SSt U := ⟨encArgsS ts x ++ List.replicate (n - ts.length) .no, []⟩

theorem encArgsS_toV {E : Env} (hU : UnivOK U E) : ∀ {ts : List Nat} (x : Args U ts), toVs U (encArgsS ts x) = encArgs ts x := by
  intro ts
  induction ts with
  | nil => intro x; rfl
  | cons t ts ih => intro x; simp only [encArgsS, toVs, encArgs, hU.encS, ih]

theorem encArgs_length : ∀ {ts : List Nat} (x : Args U ts), (encArgs ts x).length = ts.length := by
  intro ts
  induction ts with
  | nil => intro x; rfl
  | cons t ts ih => intro x; simp [encArgs, ih]

theorem entryS_toV {E : Env} (hU : UnivOK U E) {ts : List Nat} (x : Args U ts) (n : Nat) : toSt U (entryS ts x n) = ⟨encArgs ts x ++ List.replicate (n - (encArgs ts x).length) vundef, []⟩ := by
  simp only [toSt, entryS, toVs_append, encArgsS_toV hU, encArgs_length]
  congr 1
  congr 1
  rw [toVs_map, List.map_replicate]
  rfl

/-- **What is known of a function.** -/
theorem fn_ok {E0 : Env} (hE0 : E0.glob = gl) (hU : UnivOK U (EV P gl f mods hmods mk)) (hmix : P.follows .mixedOrders = true) {fn : Func} {c : Code} (hok : ∀ g m, mods g = some m → FnOK P E0 g m) (hhok : ∀ g k m, hmods g k = some m → HFnOK P E0 g m) (hfn : P.funcs[f]? = some fn) (hname : (fn.name == "runtime.NumGoroutine") = false)
    (hb : fn.body = some c) (hcalm : calmC (EV P gl f mods hmods mk) f c = true) (m : Mod U)
    (h : ∀ x a, m.fn x = some a → RunsV (callD (EV P gl f mods hmods mk) 1) (EV P gl f mods hmods mk) f fn 0 (Zp (EV P gl f mods hmods mk) fn) (.run c) [] (toSt U (entryS m.ts x fn.ntmps)) (U.enc m.rt a, [])) : FnOK P E0 f m := by
  have hE := EV_ok (gl := gl) (mods := mods) hmix hfn hname hb hcalm
  have hF : EnvFns P (EV P gl f mods hmods mk) := envFns_of hU rfl rfl (fun _ => rfl) (fun g m hm => (hok g m hm).glob (by rw [hE0]; rfl)) (fun g k m hm => (hhok g k m hm).glob (by rw [hE0]; rfl)) mk rfl
  have hfn' : (EV P gl f mods hmods mk).func f = some fn := by simp only [EV, EV0, if_true]; exact hfn
  have key : ∀ x a, m.fn x = some a → Entered P f ∧ PureFn P (EV P gl f mods hmods mk) f (encArgs m.ts x) (U.enc m.rt a) := by
    intro x a hx
    have := h x a hx
    rw [entryS_toV hU] at this
    exact pure_of_runs hE rfl hF hfn' hb this
  refine ⟨⟨fn, hfn, by simp [hb], hname⟩, fun x a hx fz w vs hc hg hr => (key x a hx).2 fz w vs hc ?_ hr⟩
  intro g r hh
  exact hg g r (by rw [hE0]; exact hh)

/-- Where a call begins that is given boxes. -/
def entryH (e : List (SV U.Ty) × SHeap U) (n : Nat) : SSt U := ⟨e.1 ++ List.replicate (n - e.1.length) .no, e.2⟩

theorem entryH_toV (e : List (SV U.Ty) × SHeap U) (n : Nat) : toSt U (entryH e n) = ⟨toVs U e.1 ++ List.replicate (n - (toVs U e.1).length) vundef, toH U e.2⟩ := by
  simp only [toSt, entryH, toVs_append, length_toVs]
  congr 1
  congr 1
  rw [toVs_map, List.map_replicate]
  rfl

/-- **What is known of a function that is given boxes.** -/
theorem hfn_ok {E0 : Env} (hE0 : E0.glob = gl) (hU : UnivOK U (EV P gl f mods hmods mk)) (hmix : P.follows .mixedOrders = true) {fn : Func} {c : Code} (hok : ∀ g m, mods g = some m → FnOK P E0 g m) (hhok : ∀ g k m, hmods g k = some m → HFnOK P E0 g m) (hfn : P.funcs[f]? = some fn) (hname : (fn.name == "runtime.NumGoroutine") = false)
    (hb : fn.body = some c) (hcalm : calmC (EV P gl f mods hmods mk) f c = true) (m : HMod U) {fa : List (List Fk)} {fb : List Bf} {k : Nat} (hk : ∀ x : m.sin.X U, (m.sin.enc x).2.length = k)
    (h : ∀ (x : m.sin.X U) (y : U.Ty m.ky), m.fn x = some y → RunsV (callD (EV P gl f mods hmods mk) 1) (EV P gl f mods hmods mk) f fn k (Zh (EV P gl f mods hmods mk) fn fa fb k) (.run c) [] (toSt U (entryH (m.sin.enc x) fn.ntmps)) (toV U (m.out y).1, toH U (m.out y).2)) : HFnOK P E0 f m := by
  have hE := EV_ok (gl := gl) (mods := mods) (hmods := hmods) hmix hfn hname hb hcalm
  have hF : EnvFns P (EV P gl f mods hmods mk) := envFns_of hU rfl rfl (fun _ => rfl) (fun g m hm => (hok g m hm).glob (by rw [hE0]; rfl)) (fun g k m hm => (hhok g k m hm).glob (by rw [hE0]; rfl)) mk rfl
  have hfn' : (EV P gl f mods hmods mk).func f = some fn := by simp only [EV, EV0, if_true]; exact hfn
  refine ⟨⟨fn, hfn, by simp [hb], hname⟩, fun x y hx B w0 σ w vs hnm hi hg hr => ?_⟩
  have h1 := h x y hx
  rw [entryH_toV] at h1
  exact (heap_of_runs hE rfl hF hfn' hb (by rw [toH_length]; exact hk x) h1).2 B w0 σ w vs hnm hi (fun g r hh => hg g r (by rw [hE0]; exact hh)) hr

theorem EV_mdl (hU : UnivOK U (EV P gl f mods hmods mk)) : MdlOK U (mdlOf mods hmods mk.tab) (callD (EV P gl f mods hmods mk) 1) :=
  mdlOf_ok hU rfl rfl (fun _ => rfl) (fun g m h => by simp only [EV, EV0, h]) (fun _ => rfl) 0

end

/-! ### types of one kind -/

/-- The laws of a type of a universe. -/
structure TyOK (U : Univ) (E : Env) (t : Nat) : Prop where
  encS : ∀ a, toV U (U.encS t a) = U.enc t a
  dec : ∀ v a, U.decS t v = some a → retype (E.rows t) (toV U v) = U.enc t a
  cells : ∀ a, (U.enc t a).cells = toVs U (cellsS (U.encS t a))
  nr : ∀ a, noRef (U.enc t a) = true
  inj : ∀ a b, U.enc t a = U.enc t b → a = b

/-- The components of a tuple. -/
def CompOK (U : Univ) (E : Env) {α : Type} : List ((i : Nat) × (α → U.Ty i)) → Prop
  | [] => True
  | c :: cs => TyOK U E c.1 ∧ CompOK U E cs
def CompEq (U : Univ) {α : Type} (x y : α) : List ((i : Nat) × (α → U.Ty i)) → Prop
  | [] => True
  | c :: cs => c.2 x = c.2 y ∧ CompEq U x y cs
theorem comp_encS {U : Univ} {E : Env} {α : Type} (x : α) : ∀ {cs : List ((i : Nat) × (α → U.Ty i))}, CompOK U E cs → toVs U (cs.map fun c => U.encS c.1 (c.2 x)) = cs.map fun c => U.enc c.1 (c.2 x) := by
  intro cs
  induction cs with
  | nil => intro _; rfl
  | cons c cs ih => intro h; simp only [List.map_cons, toVs, h.1.encS, ih h.2]
theorem comp_nr {U : Univ} {E : Env} {α : Type} (x : α) : ∀ {cs : List ((i : Nat) × (α → U.Ty i))}, CompOK U E cs → noRefs (cs.map fun c => U.enc c.1 (c.2 x)) = true := by
  intro cs
  induction cs with
  | nil => intro _; rfl
  | cons c cs ih => intro h; simp only [List.map_cons, noRefs, h.1.nr, ih h.2, Bool.and_self]
theorem comp_inj {U : Univ} {E : Env} {α : Type} (x y : α) : ∀ {cs : List ((i : Nat) × (α → U.Ty i))}, CompOK U E cs → (cs.map fun c => U.enc c.1 (c.2 x)) = (cs.map fun c => U.enc c.1 (c.2 y)) → CompEq U x y cs := by
  intro cs
  induction cs with
  | nil => intro _ _; trivial
  | cons c cs ih => intro h e; simp only [List.map_cons, List.cons.injEq] at e; exact ⟨h.1.inj _ _ e.1, ih h.2 e.2⟩
/-- A tuple is laid as its components are. -/
theorem TyOK.tup {U : Univ} {E : Env} {t : Nat} (cs : List ((i : Nat) × (U.Ty t → U.Ty i))) (h : CompOK U E cs) (h1 : ∀ x, U.enc t x = .tup (cs.map fun c => U.enc c.1 (c.2 x))) (h2 : ∀ x, U.encS t x = .tup (cs.map fun c => U.encS c.1 (c.2 x))) (h3 : ∀ v, U.decS t v = none)
    (h4 : ∀ x y, CompEq U x y cs → x = y) : TyOK U E t := by
  refine ⟨fun a => ?_, fun v a e => ?_, fun a => ?_, fun a => ?_, fun a b e => ?_⟩
  · rw [h1, h2, toV, comp_encS a h]
  · rw [h3] at e; cases e
  · rw [h1, h2]
    show [V.tup _] = [V.tup _]
    rw [comp_encS a h]
  · rw [h1]; exact comp_nr a h
  · rw [h1, h1] at e
    exact h4 a b (comp_inj a b h (V.tup.inj e))

theorem TyOK.ofAgg {U : Univ} {E : Env} {t : Nat} {c : Codec U.Ty (U.Ty t)} {rs : List Nat} (hc : CodecOK U c rs) (hr : E.rows t = rs) (h1 : ∀ a, U.enc t a = .agg (c.encV a)) (h2 : ∀ a, U.encS t a = .agg (c.encS a)) (h3 : ∀ v, U.decS t v = c.agg v) : TyOK U E t := by
  refine ⟨fun a => ?_, fun v a h => ?_, fun a => ?_, fun a => ?_, fun a b h => ?_⟩
  · rw [h1, h2, toV, hc.enc]
  · rw [hr, h1]; exact hc.agg (by rw [← h3]; exact h)
  · rw [h1, h2]; exact (hc.enc a).symm
  · rw [h1]; exact hc.nr a
  · rw [h1, h1] at h; exact hc.inj _ _ (V.agg.inj h)
theorem TyOK.ofOne {U : Univ} {E : Env} {t n : Nat} {c : Codec U.Ty (U.Ty t)} (hc : CodecOK U c [n]) (hr : E.rows t = [n]) (na : ∀ {v : SV U.Ty} {a : U.Ty t}, c.one v = some a → ∀ cs, toV U v ≠ .agg cs) (h1 : ∀ a, U.enc t a = c.oneV a) (h2 : ∀ a, U.encS t a = c.oneS a) (h3 : ∀ v, U.decS t v = c.one v)
    (h4 : ∀ a, (c.oneV a).cells = [c.oneV a]) (h5 : ∀ a, cellsS (c.oneS a) = [c.oneS a]) : TyOK U E t := by
  refine ⟨fun a => ?_, fun v a h => ?_, fun a => ?_, fun a => ?_, fun a b h => ?_⟩
  · rw [h1, h2]; exact hc.oneEnc a
  · rw [h3] at h; rw [hr, h1]; exact hc.one h (na h)
  · rw [h1, h2, h4, h5, toVs, toVs, hc.oneEnc]
  · rw [h1]; exact hc.oneNr a
  · rw [h1, h1] at h; exact hc.oneInj h
def AllT (p : Nat → Prop) : List Nat → Prop
  | [] => True
  | t :: ts => p t ∧ AllT p ts
theorem AllT.at {p : Nat → Prop} {t : Nat} : ∀ {l : List Nat}, AllT p l → t ∈ l → p t := by
  intro l
  induction l with
  | nil => intro _ m; cases m
  | cons x l ih =>
    intro h m
    rcases List.mem_cons.1 m with rfl | m
    · exact h.1
    · exact ih h.2 m

end Go.Proofs.YtpikcdlhgiooaaaGreat.Le

/-
  A function's blocks as one flow: what it comes to, its equation, and that calls come to it.
-/
namespace Go.Proofs.YtpikcdlhgiooaaaGreat.Le
set_option linter.unusedVariables false

section
variable {U : Univ} {R P : Type}

def flowJ {R P : Type} (g : P → Option R) : R ⊕ P → Option R
  | .inl r => some r
  | .inr q => g q

def flowN (T : P → Tr U (R ⊕ P)) : Nat → P → Option R
  | 0, _ => none
  | n + 1, p => (T p).den (flowJ (flowN T n))

noncomputable def flow (T : P → Tr U (R ⊕ P)) (p : P) : Option R := limO fun n => flowN T n p

theorem den_le {L : Type} {J K : L → Option R} (h : ∀ l r, J l = some r → K l = some r) : ∀ {T : Tr U L} {r : R}, T.den J = some r → T.den K = some r := by
  intro T
  induction T with
  | leaf l => intro r hr; exact h l r hr
  | br c a b iha ihb => intro r hr; cases c with
    | true => exact iha hr
    | false => exact ihb hr
  | bind t o k ih => intro r hr; cases o with
    | none => cases hr
    | some a => exact ih a hr
  | chk c a ih => intro r hr; cases c with
    | true => exact ih hr
    | false => cases hr
  | fail => intro r hr; cases hr

theorem flowN_mono (T : P → Tr U (R ⊕ P)) : ∀ n p r, flowN T n p = some r → flowN T (n + 1) p = some r := by
  intro n
  induction n with
  | zero => intro p r h; cases h
  | succ n ih =>
    intro p r h
    refine den_le ?_ h
    intro l r hl
    cases l with
    | inl a => exact hl
    | inr q => exact ih q r hl

theorem flow_of (T : P → Tr U (R ⊕ P)) {n : Nat} {p : P} {r : R} (h : flowN T n p = some r) : flow T p = some r :=
  limO_eq (fun n a h => flowN_mono T n p a h) h

/-- **The equation of a flow.** -/
theorem flow_eq (T : P → Tr U (R ⊕ P)) (p : P) : flow T p = (T p).den (flowJ (flow T)) := by
  have h1 : ∀ r, flow T p = some r → (T p).den (flowJ (flow T)) = some r := by
    intro r h
    obtain ⟨n, hn⟩ := limO_some h
    cases n with
    | zero => cases hn
    | succ n =>
      refine den_le ?_ hn
      intro l r hl
      cases l with
      | inl a => exact hl
      | inr q => exact flow_of T hl
  have h2 : ∀ r, (T p).den (flowJ (flow T)) = some r → flow T p = some r := by
    intro r h
    obtain ⟨l, hl, hr⟩ := den_runs h
    have key : ∃ n, (T p).den (flowJ (flowN T n)) = some r := by
      have hn : ∃ n, flowJ (flowN T n) l = some r := by
        cases l with
        | inl a => exact ⟨0, hr⟩
        | inr q => obtain ⟨n, hn⟩ := limO_some hr; exact ⟨n, hn⟩
      obtain ⟨n, hn⟩ := hn
      refine ⟨n, ?_⟩
      have : ∀ (X : Tr U (R ⊕ P)), X.Runs l → X.den (flowJ (flowN T n)) = some r := by
        intro X
        induction X with
        | leaf x => intro hx; simp only [Tr.Runs] at hx; subst hx; exact hn
        | br c a b iha ihb =>
          rintro (⟨rfl, hx⟩ | ⟨rfl, hx⟩)
          · exact iha hx
          · exact ihb hx
        | bind t o k ih => rintro ⟨a, rfl, hx⟩; exact ih a hx
        | chk c a ih => rintro ⟨rfl, hx⟩; exact ih hx
        | fail => intro hx; exact hx.elim
      exact this _ hl
    obtain ⟨n, hn⟩ := key
    exact flow_of T (n := n + 1) hn
  cases ha : flow T p with
  | some r => exact (h1 r ha).symm
  | none =>
    cases hb : (T p).den (flowJ (flow T)) with
    | none => rfl
    | some r => simp_all

/-- Where a block begins: its code, what comes behind it, its state, whether its first mark is passed over. -/
structure Spot (U : Univ) where
  c : Code
  K : List Fr
  st : SSt U
  sk : Bool

def leafOf {R : Type} (out : R → SV U.Ty × SHeap U) (sp : P → Spot U) : R ⊕ P → Leaf U
  | .inl r => .done (out r)
  | .inr q => .jump (sp q).c (sp q).K (sp q).st

theorem flow_runs {E : Env} {M : Mdl U} {A : Nat → Option (List Nat)} {call : CallF} (hU : UnivOK U E) (hM : MdlOK U M call) {f : FuncId} {fn : Func} {kk : Nat} {D : SSt U → Tr U (SV U.Ty × SHeap U)} {Z : St → V × Heap → Prop} (hD : ∀ st s, (D st).Runs s → Z (toSt U st) (toV U s.1, toH U s.2))
    {out : R → SV U.Ty × SHeap U} {N : Nat} (T : P → Tr U (R ⊕ P)) (sp : P → Spot U)
    (h : ∀ p, runT E M A f fn kk D N (.run (sp p).c) (sp p).K (sp p).st (sp p).sk = (T p).map (leafOf out sp)) {p : P} {r : R} (hr : flow T p = some r) :
    RunsV call E f fn kk Z (.run (sp p).c) (sp p).K (toSt U (sp p).st) (toV U (out r).1, toH U (out r).2) := by
  obtain ⟨n, hn⟩ := limO_some hr
  clear hr
  induction n generalizing p r with
  | zero => cases hn
  | succ n ih =>
    obtain ⟨l, h1, h2⟩ := den_runs hn
    have h3 := runs_map (g := leafOf out sp) h1
    rw [← h p] at h3
    refine runT_ok hU hM hD N _ _ _ _ _ h3 ?_
    cases l with
    | inl a =>
      simp only [flowJ, Option.some.injEq] at h2
      subst h2
      rfl
    | inr q => exact ih h2

end

def outP {U : Univ} (rt : Nat) (r : U.Ty rt) : SV U.Ty × SHeap U := (U.encS rt r, [])

/-- **A function that is given as a flow.** -/
theorem fn_flow {U : Univ} {P : Program} {gl : Nat → Option (List V)} {f : FuncId} {mods : FuncId → Option (Mod U)} {hmods : FuncId → List FuncId → Option (HMod U)} {mk : Makers P} {E0 : Env} (hE0 : E0.glob = gl) (hU : UnivOK U (EV P gl f mods hmods mk)) (hmix : P.follows .mixedOrders = true) {fn : Func} {c : Code}
    (hok : ∀ g m, mods g = some m → FnOK P E0 g m) (hhok : ∀ g k m, hmods g k = some m → HFnOK P E0 g m) (hfn : P.funcs[f]? = some fn) (hname : (fn.name == "runtime.NumGoroutine") = false) (hb : fn.body = some c) (hcalm : calmC (EV P gl f mods hmods mk) f c = true) (m : Mod U)
    {Pt : Type} {A : Nat → Option (List Nat)} {N : Nat} (T : Pt → Tr U (U.Ty m.rt ⊕ Pt)) (sp : Pt → Spot U)
    (h : ∀ p, runT (EV P gl f mods hmods mk) (mdlOf mods hmods mk.tab) A f fn 0 (doneP (EV P gl f mods hmods mk) fn) N (.run (sp p).c) (sp p).K (sp p).st (sp p).sk = (T p).map (leafOf (outP m.rt) sp))
    (b0 : Args U m.ts → Pt) (hm : ∀ x, m.fn x = flow T (b0 x)) (hsp : ∀ x, sp (b0 x) = ⟨c, [], entryS m.ts x fn.ntmps, false⟩) : FnOK P E0 f m := by
  refine fn_ok hE0 hU hmix hok hhok hfn hname hb hcalm m fun x a hx => ?_
  rw [hm] at hx
  have := flow_runs hU (EV_mdl hU) (fun st s hs => doneP_ok hU hs) T sp h hx
  rw [hsp] at this
  simp only [outP, hU.encS] at this
  exact this

/-- **The same of a function that is given boxes.** -/
theorem hfn_flow {U : Univ} {P : Program} {gl : Nat → Option (List V)} {f : FuncId} {mods : FuncId → Option (Mod U)} {hmods : FuncId → List FuncId → Option (HMod U)} {mk : Makers P} {E0 : Env} (hE0 : E0.glob = gl) (hU : UnivOK U (EV P gl f mods hmods mk)) (hmix : P.follows .mixedOrders = true) {fn : Func} {c : Code}
    (hok : ∀ g m, mods g = some m → FnOK P E0 g m) (hhok : ∀ g k m, hmods g k = some m → HFnOK P E0 g m) (hfn : P.funcs[f]? = some fn) (hname : (fn.name == "runtime.NumGoroutine") = false) (hb : fn.body = some c) (hcalm : calmC (EV P gl f mods hmods mk) f c = true) (m : HMod U)
    {fa : List (List Fk)} {fb : List Bf} {k : Nat} (hk : ∀ x : m.sin.X U, (m.sin.enc x).2.length = k) {Pt : Type} {A : Nat → Option (List Nat)} {N : Nat} (T : Pt → Tr U (U.Ty m.ky ⊕ Pt)) (sp : Pt → Spot U)
    (h : ∀ p, runT (EV P gl f mods hmods mk) (mdlOf mods hmods mk.tab) A f fn k (doneH (EV P gl f mods hmods mk) fn fa fb k) N (.run (sp p).c) (sp p).K (sp p).st (sp p).sk = (T p).map (leafOf m.out sp))
    (b0 : m.sin.X U → Pt) (hm : ∀ x : m.sin.X U, m.fn x = flow T (b0 x)) (hsp : ∀ x : m.sin.X U, sp (b0 x) = ⟨c, [], entryH (m.sin.enc x) fn.ntmps, false⟩) : HFnOK P E0 f m := by
  refine hfn_ok hE0 hU hmix hok hhok hfn hname hb hcalm m hk (fa := fa) (fb := fb) fun x y hx => ?_
  rw [hm] at hx
  have := flow_runs hU (EV_mdl hU) (fun st s hs => doneH_ok hU hs) T sp h hx
  rw [hsp] at this
  exact this

end Go.Proofs.YtpikcdlhgiooaaaGreat.Le

/-
  Marked regions at which slots and boxes are made ready to a given shape; ends of a given shape.
-/
namespace Go.Proofs.YtpikcdlhgiooaaaGreat.Le
set_option linter.unusedVariables false
set_option linter.unusedSimpArgs false

/-- What is kept at a marked region, and its shape. -/
structure Lay where
  keep : List Nat
  fa : List (List Fk)
  fb : List Bf
  sh : Shape

section
variable {U : Univ}

def chkAll {L : Type} (bs : List Bool) (t : Tr U L) : Tr U L := match bs with
  | [] => t
  | c :: cs => .chk (andAll (c :: cs)) t

theorem chkAll_runs {L : Type} {bs : List Bool} {t : Tr U L} {l : L} (h : (chkAll bs t).Runs l) : (∀ b ∈ bs, b = true) ∧ t.Runs l := by
  cases bs with
  | nil => exact ⟨by intro b hb; simp at hb, h⟩
  | cons c cs => exact ⟨andAll_mem h.1, h.2⟩

def layT (kk : Nat) (l : Lay) (st : SSt U) : Tr U (SSt U) :=
  (packS l.fa l.fb kk (l.keep.map fun i => st.s.getD i .und) st.H).andThen fun r =>
    .when (r.1.take kk = List.range kk) (match l.sh.dec (renFSs (r.1.idxOf ·) r.2.1) (subHS r.2.2 r.1) with
      | some x => chkAll x.2 (.leaf ⟨spread .und st.s.length l.keep (l.sh.enc x.1).1, (l.sh.enc x.1).2⟩)
      | none => .fail)

theorem toVs_keep (s : List (SV U.Ty)) (keep : List Nat) : toVs U (keep.map fun i => s.getD i .und) = keep.map fun i => (toVs U s).getD i .und := by
  induction keep with
  | nil => rfl
  | cons i keep ih => simp only [List.map_cons, toVs, ih, ← toVs_getD]

theorem layT_ok {E : Env} (hU : UnivOK U E) {kk : Nat} {l : Lay} {st st' : SSt U} (h : (layT kk l st).Runs st') : ∃ ids as H2, pack l.fa l.fb kk (l.keep.map fun i => (toSt U st).s.getD i .und) (toSt U st).H = some (ids, as, H2) ∧ ids.take kk = List.range kk ∧
    toSt U st' = ⟨spread .und (toSt U st).s.length l.keep (renFs (ids.idxOf ·) as), subH H2 ids⟩ := by
  simp only [layT, runs_andThen, runs_when] at h
  obtain ⟨p, hp, hk, h⟩ := h
  have hp' := packS_ok hp
  rw [toVs_keep] at hp'
  split at h
  · rename_i x hx
    obtain ⟨hb, h⟩ := chkAll_runs h
    simp only [Tr.Runs] at h
    subst h
    obtain ⟨e1, e2⟩ := Shape.dec_ok hU hx hb
    refine ⟨_, _, _, hp', hk, ?_⟩
    rw [renFs_toV] at e1
    rw [subHS_toH] at e2
    simp only [toSt]
    rw [e1, e2, length_toVs]
    congr 1
    rw [toVs_map, spread_map, ← toVs_map]
    rfl
  · simp [Tr.Runs] at h

/-- The end of a call that is given boxes, of a given shape. -/
def doneX (E : Env) (fn : Func) (fa : List (List Fk)) (fb : List Bf) (k : Nat) (sh : Shape) (one : Bool) (st : SSt U) : Tr U (SV U.Ty × SHeap U) :=
  (doneH E fn fa fb k st).andThen fun r => match one, r.1 with
    | true, .tup _ => .fail
    | true, v => (match sh.dec [v] r.2 with
      | some x => chkAll x.2 (.leaf ((sh.enc x.1).1.headD .und, (sh.enc x.1).2))
      | none => .fail)
    | false, .tup vs => (match sh.dec vs r.2 with
      | some x => chkAll x.2 (.leaf (.tup (sh.enc x.1).1, (sh.enc x.1).2))
      | none => .fail)
    | false, _ => .fail

theorem doneX_ok {E : Env} (hU : UnivOK U E) {fn : Func} {fa : List (List Fk)} {fb : List Bf} {k : Nat} {sh : Shape} {one : Bool} {st : SSt U} {r : SV U.Ty × SHeap U} (h : (doneX E fn fa fb k sh one st).Runs r) : Zh E fn fa fb k (toSt U st) (toV U r.1, toH U r.2) := by
  simp only [doneX, runs_andThen] at h
  obtain ⟨q, hq, h⟩ := h
  have hz := doneH_ok hU hq
  have key : toV U q.1 = toV U r.1 ∧ toH U q.2 = toH U r.2 := by
    split at h
    · simp [Tr.Runs] at h
    · split at h
      · rename_i x hx
        obtain ⟨hb, h⟩ := chkAll_runs h
        simp only [Tr.Runs] at h
        subst h
        obtain ⟨e1, e2⟩ := Shape.dec_ok hU hx hb
        refine ⟨?_, e2⟩
        cases he : (sh.enc x.1).1 with
        | nil => rw [he] at e1; cases e1
        | cons y ys =>
          rw [he] at e1
          simp only [toVs, List.cons.injEq] at e1
          exact e1.1
      · simp [Tr.Runs] at h
    · rename_i vs hvs
      split at h
      · rename_i x hx
        obtain ⟨hb, h⟩ := chkAll_runs h
        simp only [Tr.Runs] at h
        subst h
        obtain ⟨e1, e2⟩ := Shape.dec_ok hU hx hb
        refine ⟨?_, e2⟩
        rw [hvs]
        simp only [toV, e1]
      · simp [Tr.Runs] at h
    · simp [Tr.Runs] at h
  simp_all

/-- What the code comes to from here on, up to the next marked regions. 'sk': the mark of the first region is passed over. -/
def runL (E : Env) (M : Mdl U) (A : Nat → Option Lay) (f : FuncId) (fn : Func) (kk : Nat) (D : SSt U → Tr U (SV U.Ty × SHeap U)) : Nat → Ctl → List Fr → SSt U → Bool → Tr U (Leaf U)
  | 0, _, _, _, _ => .fail
  | n + 1, .run c, K, st, sk =>
    match c with
    | .skip => runL E M A f fn kk D n .nxt K st sk
    | .region id ops draw =>
      let go : Tr U (Leaf U) := if draw then (if E.calm f id then (drawT E M ops st).andThen fun st' => runL E M A f fn kk D n .nxt K st' false else .fail)
        else (opsT E M ops (List.range ops.size) st).andThen fun st' => runL E M A f fn kk D n .nxt K st' false
      match sk with
      | true => go
      | false => match A id with
        | none => go
        | some l => (layT kk l st).andThen fun st' => .leaf (.jump (.region id ops draw) K st')
    | .seq a b => runL E M A f fn kk D n (.run a) (.seq b :: K) st sk
    | .cond c a b => match evS E st.s c with
      | .lit (.bool true) => runL E M A f fn kk D n (.run a) K st sk
      | .lit (.bool false) => runL E M A f fn kk D n (.run b) K st sk
      | .sb t => .br t (runL E M A f fn kk D n (.run a) K st sk) (runL E M A f fn kk D n (.run b) K st sk)
      | _ => .fail
    | .block id b => runL E M A f fn kk D n (.run b) (.blk id :: K) st sk
    | .loop b => runL E M A f fn kk D n (.run b) (.loop b :: K) st sk
    | .scope b => runL E M A f fn kk D n (.run b) K st sk
    | .label _ => runL E M A f fn kk D n .nxt K st sk
    | .exit id => runL E M A f fn kk D n (.exit id) K st sk
    | .ret => runL E M A f fn kk D n .ret K st sk
    | _ => .fail
  | n + 1, .nxt, [], st, _ => (D st).andThen fun v => .leaf (.done v)
  | n + 1, .nxt, .seq c :: K, st, sk => runL E M A f fn kk D n (.run c) K st sk
  | n + 1, .nxt, .blk _ :: K, st, sk => runL E M A f fn kk D n .nxt K st sk
  | n + 1, .nxt, .loop b :: K, st, sk => runL E M A f fn kk D n (.run b) (.loop b :: K) st sk
  | n + 1, .exit id, .blk i :: K, st, sk => if id = i then runL E M A f fn kk D n .nxt K st sk else runL E M A f fn kk D n (.exit id) K st sk
  | n + 1, .exit id, _ :: K, st, sk => runL E M A f fn kk D n (.exit id) K st sk
  | n + 1, .exit _, [], _, _ => .fail
  | n + 1, .ret, [], st, _ => (D st).andThen fun v => .leaf (.done v)
  | n + 1, .ret, _ :: K, st, sk => runL E M A f fn kk D n .ret K st sk

theorem runL_ok {E : Env} {M : Mdl U} {A : Nat → Option Lay} {call : CallF} (hU : UnivOK U E) (hM : MdlOK U M call) {f : FuncId} {fn : Func} {kk : Nat} {D : SSt U → Tr U (SV U.Ty × SHeap U)} {Z : St → V × Heap → Prop} (hD : ∀ st s, (D st).Runs s → Z (toSt U st) (toV U s.1, toH U s.2)) {r : V × Heap} : ∀ (n : Nat) (ctl : Ctl) (K : List Fr) (st : SSt U) (sk : Bool) (l : Leaf U),
    (runL E M A f fn kk D n ctl K st sk).Runs l → LeafPost call E f fn kk Z l r → RunsV call E f fn kk Z ctl K (toSt U st) r := by
  intro n
  induction n with
  | zero => intro ctl K st sk l h; simp [runL, Tr.Runs] at h
  | succ n ih =>
    intro ctl K st sk l h hl
    cases ctl with
    | run c =>
      cases c with
      | skip => exact .skip (ih _ _ _ _ _ h hl)
      | region id ops draw =>
        simp only [runL] at h
        have go : (if draw = true then (if E.calm f id = true then (drawT E M ops st).andThen fun st' => runL E M A f fn kk D n .nxt K st' false else .fail)
            else (opsT E M ops (List.range ops.size) st).andThen fun st' => runL E M A f fn kk D n .nxt K st' false : Tr U (Leaf U)).Runs l → RunsV call E f fn kk Z (.run (.region id ops draw)) K (toSt U st) r := by
          intro hg
          cases draw with
          | true =>
            simp only [if_true] at hg
            by_cases hc : E.calm f id = true
            · rw [if_pos hc, runs_andThen] at hg
              obtain ⟨st1, h1, h2⟩ := hg
              exact .draw hc (drawT_ok hU hM h1) (ih _ _ _ _ _ h2 hl)
            · rw [if_neg hc] at hg
              simp [Tr.Runs] at hg
          | false =>
            simp only [Bool.false_eq_true, if_false] at hg
            rw [runs_andThen] at hg
            obtain ⟨st1, h1, h2⟩ := hg
            exact .region (opsT_ok hU hM h1) (ih _ _ _ _ _ h2 hl)
        cases sk with
        | true => exact go h
        | false =>
          simp only at h
          split at h
          · exact go h
          · rename_i l' hA
            simp only [runs_andThen, Tr.Runs] at h
            obtain ⟨st1, ht, rfl⟩ := h
            obtain ⟨ids, as, H2, h1, h2, h3⟩ := layT_ok hU ht
            have hl' : RunsV call E f fn kk Z (.run (.region id ops draw)) K (toSt U st1) r := hl
            rw [h3] at hl'
            exact .packd h1 h2 hl'
      | seq a b => exact .seq (ih _ _ _ _ _ h hl)
      | cond c a b =>
        simp only [runL] at h
        have hev : ev E (toSt U st).s c = toV U (evS E st.s c) := ev_toV E st.s c
        split at h
        · rename_i hc
          rw [hc] at hev
          exact .cond (t := true) hev (ih _ _ _ _ _ h hl)
        · rename_i hc
          rw [hc] at hev
          exact .cond (t := false) hev (ih _ _ _ _ _ h hl)
        · rename_i t hc
          rw [hc] at hev
          simp only [Tr.Runs] at h
          rcases h with ⟨rfl, h⟩ | ⟨rfl, h⟩
          · exact .cond (t := true) hev (ih _ _ _ _ _ h hl)
          · exact .cond (t := false) hev (ih _ _ _ _ _ h hl)
        · simp [Tr.Runs] at h
      | block id b => exact .block (ih _ _ _ _ _ h hl)
      | loop b => exact .loop (ih _ _ _ _ _ h hl)
      | scope b => exact .scope (ih _ _ _ _ _ h hl)
      | label l => exact .label (ih _ _ _ _ _ h hl)
      | exit id => exact .exit (ih _ _ _ _ _ h hl)
      | ret => exact .ret (ih _ _ _ _ _ h hl)
      | _ => simp [runL, Tr.Runs] at h
    | nxt =>
      cases K with
      | nil =>
        simp only [runL, runs_andThen, Tr.Runs] at h
        obtain ⟨v, h1, rfl⟩ := h
        have : r = (toV U v.1, toH U v.2) := hl
        rw [this]
        exact .finN (hD _ _ h1)
      | cons x K =>
        cases x with
        | seq c => exact .nseq (ih _ _ _ _ _ h hl)
        | blk i => exact .nblk (ih _ _ _ _ _ h hl)
        | loop b => exact .nloop (ih _ _ _ _ _ h hl)
    | exit id =>
      cases K with
      | nil => simp [runL, Tr.Runs] at h
      | cons x K =>
        cases x with
        | seq c => exact .eseq (ih _ _ _ _ _ h hl)
        | blk i =>
          simp only [runL] at h
          split at h
          · rename_i hi
            subst hi
            exact .eblk (ih _ _ _ _ _ h hl)
          · rename_i hi
            exact .epass hi (ih _ _ _ _ _ h hl)
        | loop b => exact .eloop (ih _ _ _ _ _ h hl)
    | ret =>
      cases K with
      | nil =>
        simp only [runL, runs_andThen, Tr.Runs] at h
        obtain ⟨v, h1, rfl⟩ := h
        have : r = (toV U v.1, toH U v.2) := hl
        rw [this]
        exact .finR (hD _ _ h1)
      | cons x K => exact .rany (ih _ _ _ _ _ h hl)

theorem flow_runsL {R P : Type} {E : Env} {M : Mdl U} {A : Nat → Option Lay} {call : CallF} (hU : UnivOK U E) (hM : MdlOK U M call) {f : FuncId} {fn : Func} {kk : Nat} {D : SSt U → Tr U (SV U.Ty × SHeap U)} {Z : St → V × Heap → Prop} (hD : ∀ st s, (D st).Runs s → Z (toSt U st) (toV U s.1, toH U s.2))
    {out : R → SV U.Ty × SHeap U} {N : Nat} (T : P → Tr U (R ⊕ P)) (sp : P → Spot U)
    (h : ∀ p, runL E M A f fn kk D N (.run (sp p).c) (sp p).K (sp p).st (sp p).sk = (T p).map (leafOf out sp)) {p : P} {r : R} (hr : flow T p = some r) :
    RunsV call E f fn kk Z (.run (sp p).c) (sp p).K (toSt U (sp p).st) (toV U (out r).1, toH U (out r).2) := by
  obtain ⟨n, hn⟩ := limO_some hr
  clear hr
  induction n generalizing p r with
  | zero => cases hn
  | succ n ih =>
    obtain ⟨l, h1, h2⟩ := den_runs hn
    have h3 := runs_map (g := leafOf out sp) h1
    rw [← h p] at h3
    refine runL_ok hU hM hD N _ _ _ _ _ h3 ?_
    cases l with
    | inl a =>
      simp only [flowJ, Option.some.injEq] at h2
      subst h2
      rfl
    | inr q => exact ih h2

end

/-- Where a marked region begins. -/
def spot {U : Univ} (c : Code) (p : List Nat) (n : Nat) (keep : List Nat) (e : List (SV U.Ty) × SHeap U) : Spot U := ⟨(nav c p []).1, (nav c p []).2, ⟨spread .und n keep e.1, e.2⟩, true⟩

/-- **A function that is given as a flow.** -/
theorem fn_flowL {U : Univ} {P : Program} {gl : Nat → Option (List V)} {f : FuncId} {mods : FuncId → Option (Mod U)} {hmods : FuncId → List FuncId → Option (HMod U)} {mk : Makers P} {E0 : Env} (hE0 : E0.glob = gl) (hU : UnivOK U (EV P gl f mods hmods mk)) (hmix : P.follows .mixedOrders = true) {fn : Func} {c : Code}
    (hok : ∀ g m, mods g = some m → FnOK P E0 g m) (hhok : ∀ g k m, hmods g k = some m → HFnOK P E0 g m) (hfn : P.funcs[f]? = some fn) (hname : (fn.name == "runtime.NumGoroutine") = false) (hb : fn.body = some c) (hcalm : calmC (EV P gl f mods hmods mk) f c = true) (m : Mod U)
    {Pt : Type} {A : Nat → Option Lay} {N : Nat} (T : Pt → Tr U (U.Ty m.rt ⊕ Pt)) (sp : Pt → Spot U)
    (h : ∀ p, runL (EV P gl f mods hmods mk) (mdlOf mods hmods mk.tab) A f fn 0 (doneP (EV P gl f mods hmods mk) fn) N (.run (sp p).c) (sp p).K (sp p).st (sp p).sk = (T p).map (leafOf (outP m.rt) sp))
    (b0 : Args U m.ts → Pt) (hm : ∀ x, m.fn x = flow T (b0 x)) (hsp : ∀ x, sp (b0 x) = ⟨c, [], entryS m.ts x fn.ntmps, false⟩) : FnOK P E0 f m := by
  refine fn_ok hE0 hU hmix hok hhok hfn hname hb hcalm m fun x a hx => ?_
  rw [hm] at hx
  have := flow_runsL hU (EV_mdl hU) (fun st s hs => doneP_ok hU hs) T sp h hx
  rw [hsp] at this
  simp only [outP, hU.encS] at this
  exact this

/-- **The same of a function that is given boxes.** -/
theorem hfn_flowL {U : Univ} {P : Program} {gl : Nat → Option (List V)} {f : FuncId} {mods : FuncId → Option (Mod U)} {hmods : FuncId → List FuncId → Option (HMod U)} {mk : Makers P} {E0 : Env} (hE0 : E0.glob = gl) (hU : UnivOK U (EV P gl f mods hmods mk)) (hmix : P.follows .mixedOrders = true) {fn : Func} {c : Code}
    (hok : ∀ g m, mods g = some m → FnOK P E0 g m) (hhok : ∀ g k m, hmods g k = some m → HFnOK P E0 g m) (hfn : P.funcs[f]? = some fn) (hname : (fn.name == "runtime.NumGoroutine") = false) (hb : fn.body = some c) (hcalm : calmC (EV P gl f mods hmods mk) f c = true) (m : HMod U)
    {fa : List (List Fk)} {fb : List Bf} {k : Nat} (hk : ∀ x : m.sin.X U, (m.sin.enc x).2.length = k) {Pt : Type} {A : Nat → Option Lay} {N : Nat} (T : Pt → Tr U (U.Ty m.ky ⊕ Pt)) (sp : Pt → Spot U)
    (h : ∀ p, runL (EV P gl f mods hmods mk) (mdlOf mods hmods mk.tab) A f fn k (doneX (EV P gl f mods hmods mk) fn fa fb k m.sout m.one) N (.run (sp p).c) (sp p).K (sp p).st (sp p).sk = (T p).map (leafOf m.out sp))
    (b0 : m.sin.X U → Pt) (hm : ∀ x : m.sin.X U, m.fn x = flow T (b0 x)) (hsp : ∀ x : m.sin.X U, sp (b0 x) = ⟨c, [], entryH (m.sin.enc x) fn.ntmps, false⟩) : HFnOK P E0 f m := by
  refine hfn_ok hE0 hU hmix hok hhok hfn hname hb hcalm m hk (fa := fa) (fb := fb) fun x y hx => ?_
  rw [hm] at hx
  have := flow_runsL hU (EV_mdl hU) (fun st s hs => doneX_ok hU hs) T sp h hx
  rw [hsp] at this
  exact this

end Go.Proofs.YtpikcdlhgiooaaaGreat.Le

/-
  From what a law is handed to values: arguments as they lie in memory are values of Lean's types.
-/
namespace Go.Proofs.YtpikcdlhgiooaaaGreat.Le
set_option linter.unusedVariables false
open Go.RowKit (Below)

/-! ### well-typed cells -/

def segsOf (P : Program) : TypeDesc → Option (List (Nat × TypeId))
  | .struct fs => some (fs.toList.map fun f => (f.offset, f.type))
  | .array n e => some ((List.range n).map fun i => (i * P.cellsOf e, e))
  | _ => none

def isRowT (P : Program) (t : TypeId) : Bool := match P.underlying t with | some d => d.isRow | none => false

def HasTy (P : Program) : Nat → TypeId → List V → Prop
  | 0, _, _ => False
  | d + 1, t, cs => match P.underlying t with
    | some .bool => ∃ b, cs = [.lit (.bool b)]
    | some (.int k) => ∃ n, cs = [.lit (.int k n)] ∧ (Lit.int k n).wf = true
    | some .string => ∃ s, cs = [.lit (.string s)] ∧ s.size ≤ maxLen
    | some (.slice e) => ∃ xs, cs = [.sl false (P.cellsOf e) xs] ∧ (xs.length ≤ reachBytes ∧ xs.length * P.bytesOf e ≤ reachBytes) ∧ ∀ x ∈ xs, (if isRowT P e then ∃ ds, x = .agg ds else x.cells = [x]) ∧ HasTy P d e x.cells
    | some dd => match segsOf P dd with
      | some ss => cs.length = P.cellsOf t ∧ ∀ s ∈ ss, HasTy P d s.2 ((cs.drop s.1).take (P.cellsOf s.2))
      | none => False
    | none => False

def covers (P : Program) : Nat → List (Nat × TypeId) → Nat → Bool
  | off, [], n => off == n
  | off, s :: ss, n => s.1 == off && covers P (off + P.cellsOf s.2) ss n

/-- Types of scalars, rows and slices, laid out without gaps. -/
def plainTy (P : Program) : Nat → TypeId → Bool
  | 0, _ => false
  | d + 1, t => match P.underlying t with
    | some .bool => true
    | some (.int _) => true
    | some .string => true
    | some (.slice e) => plainTy P d e && decide (0 < P.cellsOf e) && decide (0 < P.bytesOf e)
    | some dd => match segsOf P dd with
      | some ss => ss.all (fun s => plainTy P d s.2) && covers P 0 ss (P.cellsOf t)
      | none => false
    | none => false

def allFz (w : World) : Nat → Nat → Prop := fun b c => ∃ u, w.cell? ⟨b, c, none⟩ = some u

structure Read (P : Program) (w : World) (d : Nat) (t : TypeId) (cs : List Value) (xs : List V) : Prop where
  reps : Reps (bare (allFz w)) w xs cs
  ty : HasTy P d t xs
  ok : ∀ x ∈ xs, fzV x = true
  one : ∀ u ∈ cs, u.oneCell' = true

theorem covers_le {P : Program} : ∀ {ss : List (Nat × TypeId)} {off n : Nat}, covers P off ss n = true → off ≤ n ∧ ∀ s ∈ ss, off ≤ s.1 ∧ s.1 + P.cellsOf s.2 ≤ n := by
  intro ss
  induction ss with
  | nil => intro off n h; simp only [covers, beq_iff_eq] at h; exact ⟨by omega, by simp⟩
  | cons s ss ih =>
    intro off n h
    simp only [covers, Bool.and_eq_true, beq_iff_eq] at h
    grind

theorem read_segs {P : Program} {w : World} {d : Nat} {cs : List Value} : ∀ {ss : List (Nat × TypeId)} {off : Nat}, covers P off ss cs.length = true → (∀ s ∈ ss, ∃ xs, Read P w d s.2 ((cs.drop s.1).take (P.cellsOf s.2)) xs) →
    ∃ xs, Reps (bare (allFz w)) w xs (cs.drop off) ∧ (∀ x ∈ xs, fzV x = true) ∧ (∀ u ∈ cs.drop off, u.oneCell' = true) ∧ ∀ s ∈ ss, HasTy P d s.2 ((xs.drop (s.1 - off)).take (P.cellsOf s.2)) := by
  intro ss
  induction ss with
  | nil =>
    intro off hc _
    simp only [covers, beq_iff_eq] at hc
    refine ⟨[], ?_, by simp, ?_, by simp⟩
    · rw [hc, List.drop_length]; exact .nil
    · rw [hc, List.drop_length]; simp
  | cons s ss ih =>
    intro off hc h
    simp only [covers, Bool.and_eq_true, beq_iff_eq] at hc
    obtain ⟨h1, h2⟩ := hc
    obtain ⟨x1, r1⟩ := h s (by simp)
    obtain ⟨x2, q1, q2, q3, q4⟩ := ih h2 (fun s' hs' => h s' (by simp [hs']))
    have hle := (covers_le h2).1
    rw [h1] at r1
    have hlen : x1.length = P.cellsOf s.2 := by
      have := r1.reps.length
      rw [List.length_take, List.length_drop] at this
      omega
    have hcut : cs.drop off = (cs.drop off).take (P.cellsOf s.2) ++ cs.drop (off + P.cellsOf s.2) := by
      rw [← List.drop_drop, List.take_append_drop]
    refine ⟨x1 ++ x2, ?_, ?_, ?_, ?_⟩
    · rw [hcut]; exact r1.reps.append q1
    · intro x hx
      rcases List.mem_append.1 hx with hx | hx
      · exact r1.ok x hx
      · exact q2 x hx
    · intro u hu
      rw [hcut] at hu
      rcases List.mem_append.1 hu with hu | hu
      · exact r1.one u hu
      · exact q3 u hu
    · intro s' hs'
      rcases List.mem_cons.1 hs' with rfl | hs'
      · rw [h1, Nat.sub_self, List.drop_zero, List.take_append_of_le_length (by omega), List.take_of_length_le (by omega)]
        exact r1.ty
      · have hge := ((covers_le h2).2 s' hs').1
        have : s'.1 - off = x1.length + (s'.1 - (off + P.cellsOf s.2)) := by omega
        rw [this, List.drop_append]
        have e1 : x1.drop (x1.length + (s'.1 - (off + P.cellsOf s.2))) = [] := List.drop_eq_nil_of_le (by omega)
        rw [e1, List.nil_append]
        have e2 : x1.length + (s'.1 - (off + P.cellsOf s.2)) - x1.length = s'.1 - (off + P.cellsOf s.2) := by omega
        grind

theorem flat_rows {us : List Value} {cc : List (List Value)} (h : us.map (fun u => u.cells.toList) = cc) : flat us = cc.flatten := by
  rw [← h]
  simp [flat, List.flatMap_def]

/-- The value of a type's cells. -/
def argV (P : Program) (t : TypeId) (xs : List V) : V := if isRowT P t then .agg xs else xs.headD .no
def argU (P : Program) (t : TypeId) (cs : List Value) : Value := if isRowT P t then .agg cs.toArray else cs.headD undef

theorem HasTy.single {P : Program} {d : Nat} {t : TypeId} {xs : List V} (h : HasTy P d t xs) (hr : isRowT P t = false) : ∃ x, xs = [x] ∧ x.cells = [x] := by
  cases d with
  | zero => exact h.elim
  | succ d =>
    unfold HasTy at h
    unfold isRowT at hr
    split at h
    · obtain ⟨b, rfl⟩ := h; exact ⟨_, rfl, rfl⟩
    · obtain ⟨n, rfl, _⟩ := h; exact ⟨_, rfl, rfl⟩
    · obtain ⟨s, rfl, _⟩ := h; exact ⟨_, rfl, rfl⟩
    · obtain ⟨ys, rfl, _⟩ := h; exact ⟨_, rfl, rfl⟩
    · rename_i dd _ _ _ _ hd
      rw [hd] at hr
      split at h
      · rename_i ss hss
        unfold segsOf at hss
        grind
      · exact h.elim
    · exact h.elim

theorem Read.arg {P : Program} {w : World} {d : Nat} {t : TypeId} {cs : List Value} {xs : List V} (h : Read P w d t cs xs) :
    Reps (bare (allFz w)) w [argV P t xs] [argU P t cs] ∧ fzV (argV P t xs) = true ∧ (argU P t cs).cells.toList = cs ∧ (argV P t xs).cells = xs ∧ (if isRowT P t then ∃ ds, argV P t xs = .agg ds else (argV P t xs).cells = [argV P t xs]) := by
  unfold argV argU
  cases hr : isRowT P t with
  | true =>
    simp only [if_true]
    refine ⟨?_, ?_, by simp [Value.cells], rfl, ⟨xs, rfl⟩⟩
    · have := Reps.agg h.reps h.one (xs := []) (vs := []) .nil
      exact this
    · simp only [fzV, okV, noRef, Bool.true_and]
      rw [noRefs_iff]
      exact fun x hx => fzV_noRef (h.ok x hx)
  | false =>
    simp only [Bool.false_eq_true, if_false]
    obtain ⟨x, rfl, hx⟩ := h.ty.single hr
    obtain ⟨u, us, rfl, h1, h2⟩ := h.reps.cons_left
    have : us = [] := h2.nil_left
    subst this
    refine ⟨h1, h.ok x (by simp), ?_, hx, hx⟩
    have hone := h.one u (by simp)
    simp only [List.headD_cons]
    cases u <;> simp_all [Value.cells, Value.oneCell']

section
variable {H : Type} {enc : TypeId × Value → H} {P : Program} {w : World} {base : Nat} {held : Bool}

theorem weightsAll_mem {e : TypeId} : ∀ {l : List (DataW H)} {y : DataW H}, y ∈ l → ∀ n ∈ y.weights P e, n ∈ DataW.weightsAll P e l
  | z :: l, y, hy, n, hn => by
    simp only [DataW.weightsAll, List.mem_append]
    rcases List.mem_cons.1 hy with rfl | hy
    · exact .inl hn
    · exact .inr (weightsAll_mem hy n hn)
theorem weightsEach_mem : ∀ {ts : List TypeId} {l : List (DataW H)} {i : Nat} {t : TypeId} {y : DataW H}, ts[i]? = some t → l[i]? = some y → ∀ n ∈ y.weights P t, n ∈ DataW.weightsEach P ts l
  | [], _, _, _, _, h, _, _, _ => by simp at h
  | _ :: _, [], _, _, _, _, h, _, _ => by simp at h
  | t0 :: ts, z :: l, i, t, y, h1, h2, n, hn => by
    simp only [DataW.weightsEach, List.mem_append]
    cases i with
    | zero =>
      simp only [List.getElem?_cons_zero, Option.some.injEq] at h1 h2
      subst h1 h2
      exact .inl hn
    | succ i =>
      simp only [List.getElem?_cons_succ] at h1 h2
      exact .inr (weightsEach_mem h1 h2 n hn)
theorem weightsEach_app {us : List TypeId} {gs : List (DataW H)} : ∀ {ts : List TypeId} {l : List (DataW H)}, l.length = ts.length → ∀ n ∈ DataW.weightsEach P ts l, n ∈ DataW.weightsEach P (ts ++ us) (l ++ gs)
  | [], _, _, n, h => by simp [DataW.weightsEach] at h
  | _ :: _, [], h, _, _ => by simp at h
  | t :: ts, z :: l, hl, n, hn => by
    simp only [DataW.weightsEach, List.cons_append, List.mem_append] at hn ⊢
    rcases hn with hn | hn
    · exact .inl hn
    · exact .inr (weightsEach_app (by simpa using hl) n hn)

theorem read_ok : ∀ (d : Nat) (t : TypeId) (n : Nat) (cs : List Value) (x : DataW H × List MemPlace), plainTy P d t = true → (∀ k ∈ x.1.weights P t, k ≤ reachBytes) → DataW.trod enc P w base (fun _ => true) held n t cs = some x → ∃ xs, Read P w d t cs xs := by
  intro d
  induction d with
  | zero => intro t n cs x h; simp [plainTy] at h
  | succ d ih =>
    intro t n cs x hp hw h
    unfold plainTy at hp
    split at hp
    · rename_i ht
      obtain ⟨b, rfl, _⟩ := DataW.trod_bool ht h
      exact ⟨[.lit (.bool b)], .lit rfl .nil, by unfold HasTy; rw [ht]; exact ⟨b, rfl⟩, by simp [fzV, okV, noRef], by simp [Value.oneCell']⟩
    · rename_i k ht
      obtain ⟨m, rfl, _, hm⟩ := DataW.trod_int ht h
      exact ⟨[.lit (.int k m)], .lit (by simp [leaf, hm]) .nil, by unfold HasTy; rw [ht]; exact ⟨m, rfl, hm⟩, by simp [fzV, okV, noRef], by simp [Value.oneCell']⟩
    · rename_i ht
      obtain ⟨s, rfl, _, hs⟩ := DataW.trod_string ht h
      exact ⟨[.lit (.string s)], .lit (by simp [leaf, hs]) .nil, by unfold HasTy; rw [ht]; exact ⟨s, rfl, hs⟩, by simp [fzV, okV, noRef], by simp [Value.oneCell']⟩
    · rename_i e ht
      simp only [Bool.and_eq_true, decide_eq_true_eq] at hp
      obtain ⟨⟨hpe, hpos⟩, hbpos⟩ := hp
      have mk : ∀ (v : Value) (es : List V), Reps (bare (allFz w)) w [.sl false (P.cellsOf e) es] [v] → v.oneCell' = true → (es.length ≤ reachBytes ∧ es.length * P.bytesOf e ≤ reachBytes) → (∀ y ∈ es, fzV y = true) →
          (∀ y ∈ es, (if isRowT P e then ∃ ds, y = .agg ds else y.cells = [y]) ∧ HasTy P d e y.cells) → ∃ xs, Read P w (d + 1) t [v] xs := by
        intro v es h1 h2 h3 h4 h5
        refine ⟨_, h1, ?_, ?_, by simpa using h2⟩
        · unfold HasTy; rw [ht]; exact ⟨es, rfl, h3, h5⟩
        · intro y hy
          simp only [List.mem_singleton] at hy
          subst hy
          simp only [fzV, okV, noRef, Bool.true_and]
          rw [noRefs_iff]
          exact fun z hz => fzV_noRef (h4 z hz)
      rcases DataW.trod_slice ht h with ⟨rfl, _⟩ | ⟨a, len, cap, elems, rest, m, rfl, rfl, hx, hb, hlc, hcm, hel, helem, hrest, _⟩
      · exact mk _ [] (.slnil .nil) rfl (by simp) (by simp) (by simp)
      · obtain ⟨hrl, hrest⟩ := hrest rfl
        rw [hx] at hw
        simp only [DataW.weights, ht, List.length_map, List.mem_cons, List.mem_append, forall_eq_or_imp] at hw
        obtain ⟨hw0, hw⟩ := hw
        have hlen : elems.length ≤ reachBytes ∧ elems.length * P.bytesOf e ≤ reachBytes := by
          have h1 := Nat.le_mul_of_pos_right (elems.length + rest.length) hbpos
          have h2 : elems.length * P.bytesOf e ≤ (elems.length + rest.length) * P.bytesOf e := Nat.mul_le_mul_right _ (by omega)
          exact ⟨by omega, Nat.le_trans h2 hw0⟩
        by_cases hc0 : cap = 0
        · subst hc0
          have : len = 0 := by omega
          subst this
          exact mk _ [] (.slemp a .nil) rfl (by simp) (by simp) (by simp)
        · -- the first place is read
          have hspot : a.spot = none := by
            have hfirst : ∃ c0, w.cells? base (a.add 0) (P.cellsOf e) = some c0 := by
              by_cases hl0 : 0 < len
              · have := helem 0 hl0
                rw [Nat.zero_mul] at this
                have hlt : 0 < elems.length := by omega
                rw [List.getElem?_eq_getElem hlt] at this
                cases hq : w.cells? base (a.add 0) (P.cellsOf e) with
                | none => simp [hq] at this
                | some c0 => exact ⟨c0, rfl⟩
              · have hl0 : len = 0 := by omega
                subst hl0
                have := hrest 0 (by omega)
                simp only [Nat.zero_add, Nat.zero_mul] at this
                have hlt : 0 < rest.length := by omega
                rw [List.getElem?_eq_getElem hlt] at this
                cases hq : w.cells? base (a.add 0) (P.cellsOf e) with
                | none => simp [hq] at this
                | some c0 => exact ⟨c0, rfl⟩
            obtain ⟨c0, hc0'⟩ := hfirst
            obtain ⟨_, e2, e3⟩ := World.cells?_some hc0'
            have := e3 0 hpos
            have hlt : 0 < c0.length := by omega
            rw [List.getElem?_eq_getElem hlt] at this
            simp only [Addr.add, if_true] at this
            unfold World.cell? at this
            split at this
            · simp_all
            · cases this
          obtain ⟨ab, ao, as⟩ := a
          simp only at hspot
          subst hspot
          -- the elements
          have each : ∀ i, i < len → ∃ ci xi, w.cells? base (Addr.add ⟨ab, ao, none⟩ (i * P.cellsOf e)) (P.cellsOf e) = some ci ∧ Read P w d e ci xi := by
            intro i hi
            have := helem i hi
            have hlt : i < elems.length := by omega
            rw [List.getElem?_eq_getElem hlt] at this
            cases hq : w.cells? base (Addr.add ⟨ab, ao, none⟩ (i * P.cellsOf e)) (P.cellsOf e) with
            | none => simp [hq] at this
            | some ci =>
              rw [hq, Option.bind_some] at this
              obtain ⟨xi, hxi⟩ := ih e m ci elems[i] hpe (fun k hk => hw k (.inl (weightsAll_mem (List.mem_map.2 ⟨elems[i], List.getElem_mem hlt, rfl⟩) k hk))) this
              exact ⟨ci, xi, rfl, hxi⟩
          have list : ∀ k, k ≤ len → ∃ (es : List V) (us : List Value), es.length = k ∧ Reps (bare (allFz w)) w es us ∧ (∀ y ∈ es, fzV y = true) ∧ (∀ u ∈ us, u.cells.size = P.cellsOf e) ∧ (∀ u ∈ flat us, u.oneCell' = true) ∧
              (∀ y ∈ es, (if isRowT P e then ∃ ds, y = .agg ds else y.cells = [y]) ∧ HasTy P d e y.cells) ∧ (∀ j u, (flat us)[j]? = some u → w.cell? ⟨ab, ao + j, none⟩ = some u) := by
            intro k
            induction k with
            | zero => intro _; exact ⟨[], [], rfl, .nil, by simp, by simp, by simp [flat], by simp, by simp [flat]⟩
            | succ k ihk =>
              intro hk
              obtain ⟨es, us, l1, l2, l3, l4, l5, l6, l7⟩ := ihk (by omega)
              obtain ⟨ci, xi, hci, hr⟩ := each k (by omega)
              obtain ⟨a1, a2, a3, a4, a5⟩ := hr.arg
              obtain ⟨_, c2, c3⟩ := World.cells?_some hci
              have hsz : (argU P e ci).cells.size = P.cellsOf e := by
                have := congrArg List.length a3
                simpa [c2] using this
              refine ⟨es ++ [argV P e xi], us ++ [argU P e ci], by simp [l1], l2.append a1, ?_, ?_, ?_, ?_, ?_⟩
              · grind
              · grind
              · intro u hu
                rw [flat_append] at hu
                rcases List.mem_append.1 hu with hu | hu
                · exact l5 u hu
                · rw [single_flat, a3] at hu
                  exact hr.one u hu
              · intro y hy
                rcases List.mem_append.1 hy with hy | hy
                · exact l6 y hy
                · rw [List.mem_singleton.1 hy]; exact ⟨a5, by rw [a4]; exact hr.ty⟩
              · intro j u hj
                rw [flat_append, single_flat, a3] at hj
                have hfl : (flat us).length = k * P.cellsOf e := by rw [flat_length l4, ← l2.length, l1]
                by_cases hlt : j < (flat us).length
                · grind
                · rw [List.getElem?_append_right (by omega)] at hj
                  have hjl : j - (flat us).length < P.cellsOf e := by
                    have := (List.getElem?_eq_some_iff.1 hj).1
                    omega
                  have := c3 _ hjl
                  rw [hj] at this
                  rw [← this]
                  congr 1
                  have hadd : Addr.add (Addr.add ⟨ab, ao, none⟩ (k * P.cellsOf e)) (j - (flat us).length) = ⟨ab, ao + j, none⟩ := by
                    simp only [Addr.add]
                    split <;> split <;> simp <;> omega
                  rw [hadd]
          obtain ⟨es, us, l1, l2, l3, l4, l5, l6, l7⟩ := list len (Nat.le_refl _)
          subst l1
          refine mk _ es ?_ rfl ⟨by omega, (show es.length = elems.length by omega) ▸ hlen.2⟩ l3 l6
          exact .sl ab ao cap (P.cellsOf e) l2 l3 l4 l5 hlc hcm (fun j u hj => ⟨⟨u, l7 j u hj⟩, l7 j u hj⟩) .nil
    · rename_i dd _ _ _ _ ht
      split at hp
      · rename_i ss hss
        simp only [Bool.and_eq_true, List.all_eq_true] at hp
        obtain ⟨hall, hcov⟩ := hp
        have parts : cs.length = P.cellsOf t ∧ ∀ s ∈ ss, ∃ xs, Read P w d s.2 ((cs.drop s.1).take (P.cellsOf s.2)) xs := by
          cases dd with
          | struct fs =>
            simp only [segsOf, Option.some.injEq] at hss
            obtain ⟨xs, m, _, hx, hlen, hxl, hf⟩ := DataW.trod_struct ht h
            rw [hx] at hw
            simp only [DataW.weights, ht] at hw
            refine ⟨hlen, fun s hs => ?_⟩
            have hs' := hs
            rw [← hss] at hs
            obtain ⟨f, hfm, rfl⟩ := List.mem_map.1 hs
            obtain ⟨i, hi, hfi⟩ := List.getElem_of_mem hfm
            have hfi' : fs[i]? = some f := by simp at hi; rw [Array.getElem?_eq_getElem hi]; simp at hfi; rw [hfi]
            have hil : i < xs.length := by rw [hxl]; simpa using hi
            have hti := hf i f hfi'
            rw [List.getElem?_eq_getElem hil] at hti
            exact ih _ m _ _ (hall _ hs') (fun k hk => hw k (weightsEach_mem (i := i) (t := f.type) (y := xs[i].1) (by simp [hfi']) (by simp [hil]) k hk)) hti
          | array n' e =>
            simp only [segsOf, Option.some.injEq] at hss
            obtain ⟨xs, m, _, hx, hlen, hxl, hf⟩ := DataW.trod_array ht h
            rw [hx] at hw
            simp only [DataW.weights, ht] at hw
            refine ⟨hlen, fun s hs => ?_⟩
            have hs' := hs
            rw [← hss] at hs
            obtain ⟨i, him, rfl⟩ := List.mem_map.1 hs
            have hi : i < n' := List.mem_range.1 him
            have hil : i < xs.length := by omega
            have hti := hf i hi
            rw [List.getElem?_eq_getElem hil] at hti
            exact ih _ m _ _ (hall _ hs') (fun k hk => hw k (weightsAll_mem (List.mem_map.2 ⟨xs[i], List.getElem_mem hil, rfl⟩) k hk)) hti
          | _ => simp [segsOf] at hss
        obtain ⟨hlen, hparts⟩ := parts
        obtain ⟨xs, h1, h2, h3, h4⟩ := read_segs (by rw [hlen]; exact hcov) hparts
        rw [List.drop_zero] at h1 h3
        refine ⟨xs, h1, ?_, h2, h3⟩
        unfold HasTy
        rw [ht]
        simp only [Nat.sub_zero] at h4
        split <;> first | (rename_i hq; simp only [Option.some.injEq] at hq; subst hq; simp [segsOf] at hss; done) | skip
        · rename_i hq
          simp only [Option.some.injEq] at hq
          subst hq
          rw [hss]
          exact ⟨by rw [h1.length]; exact hlen, h4⟩
        · rename_i hq; cases hq
      · cases hp
    · cases hp

/-- Arguments as they are read. -/
inductive ArgsRead (P : Program) (d : Nat) : List TypeId → List V → Prop where
  | nil : ArgsRead P d [] []
  | cons {t ts xs as} : HasTy P d t xs → ArgsRead P d ts as → ArgsRead P d (t :: ts) (argV P t xs :: as)

theorem okWide_arg {r : Reach} {b0 : Nat} {d : Nat} {t : TypeId} {v : Value} {xs : List V} (hv : Value.okWide P w r b0 t v) (h : Read P w d t v.cells.toList xs) : argU P t v.cells.toList = v := by
  unfold argU
  cases hr : isRowT P t with
  | true =>
    simp only [if_true]
    unfold isRowT at hr
    split at hr
    · rename_i dd hd
      unfold Value.okWide at hv
      rw [hd] at hv
      cases dd <;> simp [TypeDesc.isRow] at hr
      · obtain ⟨cs, rfl, _⟩ := hv; simp [Value.cells]
      · obtain ⟨cs, rfl, _⟩ := hv; simp [Value.cells]
    · cases hr
  | false =>
    simp only [Bool.false_eq_true, if_false]
    obtain ⟨x, rfl, _⟩ := h.ty.single hr
    have hne : ∀ cs, v ≠ .agg cs := by
      rintro cs rfl
      unfold isRowT at hr
      unfold Value.okWide at hv
      split at hv
      · rename_i hd; rw [hd] at hr; simp [TypeDesc.isRow] at hr
      · rename_i hd; rw [hd] at hr; simp [TypeDesc.isRow] at hr
      · unfold Cell.okWide at hv
        split at hv <;> simp_all [Cell.ok]
    cases v <;> first | rfl | exact absurd rfl (hne _)

theorem args_ok {d : Nat} : ∀ {ts : List TypeId} {vs : List Value} {ds : List (DataW H)} {ps : List MemPlace}, DataW.TrodAll enc P w base (fun _ => true) held ts vs ds ps → (∀ k ∈ DataW.weightsEach P ts ds, k ≤ reachBytes) → (∀ t ∈ ts, plainTy P d t = true) →
    (∀ (j : Nat) t v, ts[j]? = some t → vs[j]? = some v → ∃ r b0, Value.okWide P w r b0 t v) → ∃ as, Reps (bare (allFz w)) w as vs ∧ ArgsRead P d ts as := by
  intro ts
  induction ts with
  | nil =>
    intro vs ds ps h _ _ _
    cases vs with
    | nil => exact ⟨[], .nil, .nil⟩
    | cons v vs => cases ds <;> exact h.elim
  | cons t ts ih =>
    intro vs ds ps h hwt hp hv
    cases vs with
    | nil => exact h.elim
    | cons v vs =>
      cases ds with
      | nil => exact h.elim
      | cons d0 ds =>
        obtain ⟨p, q, ⟨fuel, h1⟩, h2, _⟩ := h
        simp only [DataW.weightsEach, List.mem_append] at hwt
        obtain ⟨as, r1, r2⟩ := ih h2 (fun k hk => hwt k (.inr hk)) (fun t' ht' => hp t' (by simp [ht'])) (fun j t' v' hj hj' => hv (j + 1) t' v' (by simpa using hj) (by simpa using hj'))
        obtain ⟨xs, hx⟩ := read_ok d t fuel _ _ (hp t (by simp)) (fun k hk => hwt k (.inl hk)) h1
        obtain ⟨r, b0, hok⟩ := hv 0 t v rfl rfl
        have ha := hx.arg.1
        rw [okWide_arg hok hx] at ha
        exact ⟨_, Reps.cons_iff.2 ⟨ha, r1⟩, .cons hx.ty r2⟩

end

end Go.Proofs.YtpikcdlhgiooaaaGreat.Le

/-
  A law's statement out of what its function comes to: arguments of Lean's types, a contract for the row.
-/
namespace Go.Proofs.YtpikcdlhgiooaaaGreat.Le
set_option linter.unusedVariables false
open Go.RowKit (Below)
open Go.ChangeShapes

/-! ### values of Lean's types out of cells -/

structure CodecRd (P : Program) {Ty : Nat → Type} {T : Type} (c : Codec Ty T) (t : TypeId) (wf : T → Prop) : Prop where
  rd : ∀ (d : Nat) (xs : List V), HasTy P d t xs → ∃ a, c.encV a = xs ∧ wf a

structure SegRd (P : Program) {Ty : Nat → Type} {T : Type} (c : Codec Ty T) (ss : List (Nat × TypeId)) (off n : Nat) (wf : T → Prop) : Prop where
  rd : ∀ (d : Nat) (xs : List V), xs.length = n → (∀ s ∈ ss, HasTy P d s.2 ((xs.drop s.1).take (P.cellsOf s.2))) → ∃ a, c.encV a = xs.drop off ∧ wf a

def WI (k : IntKind) (a : Int) : Prop := (Lit.int k a).wf = true
def WB (_ : Bool) : Prop := True
def WS (s : ByteArray) : Prop := s.size ≤ maxLen
def WL {α : Type} (k : Nat) (p : α → Prop) (xs : List α) : Prop := (xs.length ≤ reachBytes ∧ xs.length * k ≤ reachBytes) ∧ ∀ x ∈ xs, p x
def WU (_ : Unit) : Prop := True

section
variable {P : Program} {Ty : Nat → Type} {T : Type}

theorem CodecRd.int {k : IntKind} {t : TypeId} (ht : P.underlying t = some (.int k)) : CodecRd P (Codec.int k : Codec Ty Int) t (WI k) := by
  refine ⟨fun d xs h => ?_⟩
  cases d with
  | zero => exact h.elim
  | succ d =>
    unfold HasTy at h
    rw [ht] at h
    obtain ⟨n, rfl, hw⟩ := h
    exact ⟨n, rfl, hw⟩

theorem CodecRd.bool {t : TypeId} (ht : P.underlying t = some .bool) : CodecRd P (Codec.bool : Codec Ty Bool) t WB := by
  refine ⟨fun d xs h => ?_⟩
  cases d with
  | zero => exact h.elim
  | succ d =>
    unfold HasTy at h
    rw [ht] at h
    obtain ⟨n, rfl⟩ := h
    exact ⟨n, rfl, trivial⟩

theorem CodecRd.str {t : TypeId} (ht : P.underlying t = some .string) : CodecRd P (Codec.str : Codec Ty ByteArray) t WS := by
  refine ⟨fun d xs h => ?_⟩
  cases d with
  | zero => exact h.elim
  | succ d =>
    unfold HasTy at h
    rw [ht] at h
    obtain ⟨n, rfl, hw⟩ := h
    exact ⟨n, rfl, hw⟩

theorem list_rd {α : Type} {p : α → Prop} {e : α → V} : ∀ {xs : List V}, (∀ x ∈ xs, ∃ a, e a = x ∧ p a) → ∃ as : List α, as.map e = xs ∧ ∀ a ∈ as, p a := by
  intro xs
  induction xs with
  | nil => simp_all
  | cons x xs ih =>
    intro h
    obtain ⟨a, ha, hp⟩ := h x (by simp)
    obtain ⟨as, has, hps⟩ := ih (fun y hy => h y (by simp [hy]))
    refine ⟨a :: as, by simp [ha, has], fun b hb => ?_⟩
    grind

theorem CodecRd.rows {t e n k : Nat} {c : Codec Ty (Ty e)} {wf : Ty e → Prop} (ht : P.underlying t = some (.slice e)) (hn : P.cellsOf e = n) (hk : P.bytesOf e = k) (hr : isRowT P e = true) (hc : CodecRd P c e wf) :
    CodecRd P (Codec.list e n (fun a => .agg (c.encV a)) : Codec Ty (List (Ty e))) t (WL k wf) := by
  refine ⟨fun d xs h => ?_⟩
  cases d with
  | zero => exact h.elim
  | succ d =>
    unfold HasTy at h
    rw [ht] at h
    obtain ⟨ys, rfl, hl, hy⟩ := h
    obtain ⟨as, has, hp⟩ := list_rd (p := wf) (e := fun a => V.agg (c.encV a)) (xs := ys) (fun y hy' => by
      obtain ⟨h1, h2⟩ := hy y hy'
      rw [if_pos hr] at h1
      obtain ⟨ds, rfl⟩ := h1
      obtain ⟨a, ha, hw⟩ := hc.rd d _ h2
      exact ⟨a, by rw [ha]; rfl, hw⟩)
    subst hn
    subst hk
    have hq : as.length = ys.length := by rw [← has, List.length_map]
    exact ⟨as, by simp only [Codec.list, has], by rw [hq]; exact hl, hp⟩

theorem CodecRd.ones {t e n k : Nat} {c : Codec Ty (Ty e)} {wf : Ty e → Prop} (ht : P.underlying t = some (.slice e)) (hn : P.cellsOf e = n) (hk : P.bytesOf e = k) (hr : isRowT P e = false) (hc : CodecRd P c e wf) :
    CodecRd P (Codec.list e n (fun a => c.oneV a) : Codec Ty (List (Ty e))) t (WL k wf) := by
  refine ⟨fun d xs h => ?_⟩
  cases d with
  | zero => exact h.elim
  | succ d =>
    unfold HasTy at h
    rw [ht] at h
    obtain ⟨ys, rfl, hl, hy⟩ := h
    obtain ⟨as, has, hp⟩ := list_rd (p := wf) (e := fun a => c.oneV a) (xs := ys) (fun y hy' => by
      obtain ⟨h1, h2⟩ := hy y hy'
      rw [if_neg (by simp [hr])] at h1
      obtain ⟨a, ha, hw⟩ := hc.rd d _ h2
      exact ⟨a, by simp only [Codec.oneV, ha, h1]; rfl, hw⟩)
    subst hn
    subst hk
    have hq : as.length = ys.length := by rw [← has, List.length_map]
    exact ⟨as, by simp only [Codec.list, has], by rw [hq]; exact hl, hp⟩

theorem SegRd.unit {off n : Nat} (h : off = n) : SegRd P (Codec.unit : Codec Ty Unit) [] off n WU := by
  refine ⟨fun d xs hl _ => ⟨(), ?_, trivial⟩⟩
  subst h
  rw [← hl, List.drop_length]
  rfl

theorem SegRd.pair {A B : Type} {a : Codec Ty A} {b : Codec Ty B} {t off n k : Nat} {ss : List (Nat × TypeId)} {wa : A → Prop} {wb : B → Prop} (ha : CodecRd P a t wa) (hk : P.cellsOf t = k) (hb : SegRd P b ss (off + k) n wb) :
    SegRd P (Codec.pair a b) ((off, t) :: ss) off n (fun x => wa x.1 ∧ wb x.2) := by
  refine ⟨fun d xs hl h => ?_⟩
  obtain ⟨x, hx, hwx⟩ := ha.rd d _ (h (off, t) (by simp))
  obtain ⟨y, hy, hwy⟩ := hb.rd d xs hl (fun s hs => h s (by simp [hs]))
  refine ⟨(x, y), ?_, hwx, hwy⟩
  simp only [Codec.pair, hx, hy]
  rw [hk, ← List.drop_drop, List.take_append_drop]

theorem CodecRd.row {c : Codec Ty T} {t n : Nat} {dd : TypeDesc} {ss : List (Nat × TypeId)} {wf : T → Prop} (ht : P.underlying t = some dd) (hss : segsOf P dd = some ss) (hn : P.cellsOf t = n) (h : SegRd P c ss 0 n wf) : CodecRd P c t wf := by
  refine ⟨fun d xs hx => ?_⟩
  cases d with
  | zero => exact hx.elim
  | succ d =>
    unfold HasTy at hx
    rw [ht] at hx
    have key : xs.length = P.cellsOf t ∧ ∀ s ∈ ss, HasTy P d s.2 ((xs.drop s.1).take (P.cellsOf s.2)) := by
      cases dd with
      | struct fs => simp_all
      | array m e => simp_all
      | _ => simp [segsOf] at hss
    obtain ⟨a, ha, hw⟩ := h.rd d xs (key.1.trans hn) key.2
    grind

theorem CodecRd.iso {A B : Type} {f : A → B} {g : B → A} {b : Codec Ty B} {t : TypeId} {wf : B → Prop} (hb : CodecRd P b t wf) (hfg : ∀ y, f (g y) = y) : CodecRd P (Codec.iso f g b) t (fun x => wf (f x)) := by
  refine ⟨fun d xs h => ?_⟩
  obtain ⟨y, hy, hw⟩ := hb.rd d xs h
  exact ⟨g y, by simp only [Codec.iso, hfg]; exact hy, by rw [hfg]; exact hw⟩

end

/-- A type of a universe out of cells. -/
structure TyRd (P : Program) (U : Univ) (t : TypeId) (wf : U.Ty t → Prop) : Prop where
  rd : ∀ d xs, HasTy P d t xs → ∃ a, U.enc t a = argV P t xs ∧ wf a

theorem TyRd.rows {P : Program} {U : Univ} {t : TypeId} {c : Codec U.Ty (U.Ty t)} {wf : U.Ty t → Prop} (hr : isRowT P t = true) (hc : CodecRd P c t wf) (he : ∀ a, U.enc t a = .agg (c.encV a)) : TyRd P U t wf := by
  refine ⟨fun d xs h => ?_⟩
  obtain ⟨a, ha, hw⟩ := hc.rd d xs h
  exact ⟨a, by rw [he, ha]; simp [argV, hr], hw⟩
theorem TyRd.ones {P : Program} {U : Univ} {t : TypeId} {c : Codec U.Ty (U.Ty t)} {wf : U.Ty t → Prop} (hr : isRowT P t = false) (hc : CodecRd P c t wf) (he : ∀ a, U.enc t a = c.oneV a) : TyRd P U t wf := by
  refine ⟨fun d xs h => ?_⟩
  obtain ⟨a, ha, hw⟩ := hc.rd d xs h
  exact ⟨a, by rw [he]; simp [argV, hr, Codec.oneV, ha], hw⟩

/-- Arguments of Lean's types, each as its type has it. -/
inductive AllRd (P : Program) (U : Univ) : (ts : List Nat) → (Args U ts → Prop) → Prop where
  | nil : AllRd P U [] (fun _ => True)
  | cons {t ts wf W} : TyRd P U t wf → AllRd P U ts W → AllRd P U (t :: ts) (fun x => wf x.1 ∧ W x.2)

theorem allRd_ok {P : Program} {U : Univ} {ts : List Nat} {W : Args U ts → Prop} (h : AllRd P U ts W) : ∀ {d : Nat} {as : List V}, ArgsRead P d ts as → ∃ x : Args U ts, encArgs ts x = as ∧ W x := by
  induction h with
  | nil => intro d as ha; cases ha; exact ⟨(), rfl, trivial⟩
  | cons ht _ ih =>
    intro d as ha
    cases ha with
    | cons h1 h2 =>
      obtain ⟨a, ha, hw⟩ := ht.rd _ _ h1
      obtain ⟨x, hx, hW⟩ := ih h2
      exact ⟨(a, x), by simp [encArgs, ha, hx], hw, hW⟩

/-! ### the row -/

section
variable {H : Type} {enc : TypeId × Value → H} {P : Program}

theorem trodAll_stays {W W' : World} {sp : Nat → Bool} (hl : laidOutB P = true) : ∀ {ts : List TypeId} {vs : List Value} {ds : List (DataW H)} {ps : List MemPlace}, (∀ t ∈ ts, P.readableRec t = true ∧ t < P.types.size) →
    DataW.TrodAll enc P W 0 (fun _ => true) true ts vs ds ps → Below W.heap.size W W' → (∀ p ∈ ps, p.block < W.heap.size) → (∀ p ∈ ps, sp p.block = true) → DataW.TrodAll enc P W' 0 sp true ts vs ds ps
  | [], [], [], _, _, h, _, _, _ => h
  | t :: ts, v :: vs, d :: ds, _, ht, ⟨p, q, h1, h2, e⟩, hb, hlt, hsp =>
    ⟨p, q, WideElems.Trod_stays hl (ht t (by simp)).1 (ht t (by simp)).2 h1 (fun x hx => hb.same (hlt x (by simp_all))) (fun x hx => hsp x (by simp_all)),
      trodAll_stays hl (fun t ht' => ht t (by simp [ht'])) h2 hb (fun x hx => hlt x (by simp_all)) (fun x hx => hsp x (by simp_all)), e⟩

/-- What a law leaves. -/
theorem law_post {f : Func} {s : ChangeSpec} {apart fresh handsOn again : Bool} {W W' : World} {args : Array Value} {ds gs : List (DataW H)} {before : List MemPlace} {tb : TypeId} (hl : laidOutB P = true) (hts : ∀ t ∈ f.params.toList, P.readableRec t = true ∧ t < P.types.size)
    (hW : DataW.Whole enc P f.params.toList s.vars apart W args.toList ds gs before) (hb : Below W.heap.size W W') (hr : f.resultTypes = #[tb]) (htb : P.underlying tb = some .bool)
    (h1 : (s.fn H (ds ++ gs)).results = [.lit (.bool true)]) (h2 : (s.fn H (ds ++ gs)).args = ds) (h3 : (s.fn H (ds ++ gs)).vars = gs)
    (hvars : ∀ (pv : List MemPlace), DataW.TrodVars enc P W (fun _ => true) s.vars gs pv → (∀ p ∈ pv, p.block < W.heap.size) → ∀ sp : Nat → Bool, (∀ p ∈ pv, sp p.block = true) → DataW.TrodVars enc P W' sp s.vars gs pv) :
    s.post enc P f apart fresh handsOn again W args (.bool true) W' := by
  have hlt := hW.lt
  have hW0 := hW
  obtain ⟨pa, pv, hA, hV, hps, hz, hn⟩ := hW
  have hold : ∀ p ∈ before, (fun b => decide (b < W.heap.size)) p.block = true := fun p hp => by simpa using hlt p hp
  have hpa : ∀ p ∈ pa, p ∈ before := fun p hp => by simp_all
  have hpv : ∀ p ∈ pv, p ∈ before := fun p hp => by simp_all
  have hargs : ∀ sp : Nat → Bool, (∀ p ∈ before, sp p.block = true) → DataW.TrodAll enc P W' 0 sp true f.params.toList args.toList (s.fn H (ds ++ gs)).args pa := fun sp hsp => by
    rw [h2]; exact trodAll_stays hl hts hA hb (fun p hp => hlt p (hpa p hp)) (fun p hp => hsp p (hpa p hp))
  have hvs : ∀ sp : Nat → Bool, (∀ p ∈ before, sp p.block = true) → DataW.TrodVars enc P W' sp s.vars (s.fn H (ds ++ gs)).vars pv := fun sp hsp => by
    simp_all
  have hres : ∀ (b : Nat) (sp : Nat → Bool) (hd : Bool), DataW.TrodAll enc P W' b sp hd f.resultTypes.toList ((Value.bool true).resultList f.resultTypes.size) (s.fn H (ds ++ gs)).results [] := fun b sp hd => by
    rw [h1, hr]; exact trodAll_cons_mk (p := []) (p' := []) (RowKit.shut_bool htb _) trodAll_mk0
  refine ⟨ds, gs, before, [], pa, pv, hW0, hres _ _ _, hargs _ hold, hvs _ hold, World.keptBut_mono (fun p hp => ⟨hp, ?_⟩) (hb.frame (· ∈ before)), fun _ => ?_⟩
  · simp_all
  · refine ⟨RowKit.ok_one hr rfl (RowKit.okWide_bool_mk htb _), _, _, ([] ++ pa) ++ pv, ⟨[] ++ pa, pv, trodAll_append (hargs _ (fun _ _ => rfl)) (hres _ _ _), hvs _ (fun _ _ => rfl), rfl, ?_, ?_⟩, ?_⟩
    · intro b off hp
      have hm : MemPlace.cell b off ∈ before := by rw [hps]; simpa using hp
      rw [hb.frozen (p := ⟨b, off, none⟩) (hlt _ hm)]
      exact hz b off hm
    · simp_all
    simp_all

/-- **A law's contract.** -/
theorem law_ok {U : Univ} {E0 : Env} {f : FuncId} {fn : Func} {m : Mod U} {s : ChangeSpec} {apart fresh handsOn again : Bool} {tb : TypeId} (hok : FnOK P E0 f m) {Wf : Args U m.ts → Prop} (hrd : AllRd P U m.ts Wf) (hpar : fn.params.toList = m.ts) {d : Nat} (hpl : ∀ t ∈ m.ts, plainTy P d t = true)
    (hl : laidOutB P = true) (hts : ∀ t ∈ m.ts, P.readableRec t = true ∧ t < P.types.size) (hr : fn.resultTypes = #[tb]) (htb : P.underlying tb = some .bool) {tt : U.Ty m.rt} (htt : U.enc m.rt tt = .lit (.bool true)) (htrue : ∀ x, Wf x → m.fn x = some tt)
    (hspec : ∀ (ds gs : List (DataW H)), ds.length = m.ts.length → gs.length = s.vars.length → (s.fn H (ds ++ gs)).results = [.lit (.bool true)] ∧ (s.fn H (ds ++ gs)).args = ds ∧ (s.fn H (ds ++ gs)).vars = gs)
    {W : World} {args : Array Value} {ds gs : List (DataW H)} {before : List MemPlace} (hval : ∀ (j : Nat) t v, fn.params[j]? = some t → args[j]? = some v → ∃ r b0, Value.okWide P W r b0 t v)
    (hW : DataW.Whole enc P fn.params.toList s.vars apart W args.toList ds gs before) (hg : GlobOK E0 (bare (allFz W)) W)
    (hvars : ∀ (W' : World), Below W.heap.size W W' → ∀ (pv : List MemPlace), DataW.TrodVars enc P W (fun _ => true) s.vars gs pv → (∀ p ∈ pv, p.block < W.heap.size) → ∀ sp : Nat → Bool, (∀ p ∈ pv, sp p.block = true) → DataW.TrodVars enc P W' sp s.vars gs pv)
    (hdl : ds.length = m.ts.length) (hgl : gs.length = s.vars.length) (hsz : (DataW.weightsEach P (fn.params.toList ++ s.plain.varTypes P) (ds ++ gs)).all (· ≤ reachBytes) = true) :
    Calls P f args W fun e W' => ∃ v, e = .returned v ∧ s.post enc P fn apart fresh handsOn again W args v W' := by
  have hW0 := hW
  obtain ⟨pa, pv, hA, hV, hps, hz, hn⟩ := hW
  rw [hpar] at hA
  obtain ⟨as, hreps, hread⟩ := args_ok hA (fun k hk => of_decide_eq_true (List.all_eq_true.1 hsz k (weightsEach_app (by rw [hpar, hdl]) k (by rw [hpar]; exact hk)))) hpl (fun j t v hj hv => hval j t v (by grind) (by simp_all))
  obtain ⟨x, hx, hwf⟩ := allRd_ok hrd hread
  have hcall := hok.pure x tt (htrue x hwf) (allFz W) W args.toList (fun b c hh => hh) hg (by rw [hx]; exact hreps)
  refine hcall.mono ?_
  rintro e W' ⟨u, fz', rfl, hb, _, _, _, hru, _⟩
  rw [htt] at hru
  cases hru with
  | lit _ _ =>
    obtain ⟨s1, s2, s3⟩ := hspec ds gs hdl hgl
    exact ⟨_, rfl, law_post hl (by rw [hpar]; exact hts) hW0 hb hr htb s1 s2 s3 (hvars W' hb)⟩

end

end Go.Proofs.YtpikcdlhgiooaaaGreat.Le

/-
  Functions without arguments, run by the kernel.
-/
namespace Go.Proofs.YtpikcdlhgiooaaaGreat.Le
set_option linter.unusedVariables false

/-- slices.Clone, its elements of n cells and by bytes: what it comes to. -/
def cloneF (n by' : Nat) : List V → Option V
  | [.sl false e xs] => if e = n ∧ xs.length * by' ≤ lim ∧ xs.length ≤ maxLen then some (.sl false e xs) else none
  | _ => none
def envCl (cl : List (Nat × Nat × Nat × Nat)) : FuncId → Option (List V → Option V) := fun g => (cl.find? fun p => p.1 == g).map fun p => cloneF p.2.1 p.2.2.1
def ownCl (cl : List (Nat × Nat × Nat × Nat)) : FuncId → Option TypeId := fun g => (cl.find? fun p => p.1 == g).map fun p => p.2.2.2
structure CloneOK (P : Program) (f n by' e : Nat) : Prop where
  entered : Entered P f
  pure : ∀ (E : Env) (xs : List V), xs.length * by' ≤ lim → xs.length ≤ maxLen → PureFn P E f [.sl false n xs] (.sl false n xs)
  own : ∀ (E : Env) (xs : List V), xs.length * by' ≤ lim → xs.length ≤ maxLen → PureOwn P E f [.sl false n xs] e n xs

theorem envCl_fns {P : Program} {E : Env} {cl : List (Nat × Nat × Nat × Nat)} (hE : E.env = envCl cl) (ho : E.own = ownCl cl) (hhm : ∀ f k, E.hm f k = none) (hmk : ∀ f, E.maps f = none) (h : ∀ p ∈ cl, CloneOK P p.1 p.2.1 p.2.2.1 p.2.2.2) : EnvFns P E := by
  refine ⟨?_, fun f key hs h => (by rw [hhm] at h; cases h), hmk⟩
  intro f F hF
  rw [hE] at hF
  unfold envCl at hF
  cases hp : cl.find? (fun p => p.1 == f) with
  | none => simp [hp] at hF
  | some p =>
    simp only [hp, Option.map_some, Option.some.injEq] at hF
    subst hF
    have hm := h p (List.mem_of_find?_eq_some hp)
    have hf : p.1 = f := by simpa using List.find?_some hp
    rw [hf] at hm
    have hown : E.own f = some p.2.2.2 := by rw [ho]; unfold ownCl; rw [hp]; rfl
    refine ⟨hm.entered, fun as r _ hr => ?_⟩
    rw [hown]
    intro sz xs hr0
    subst hr0
    unfold cloneF at hr
    split at hr
    · split at hr
      · rename_i hc
        simp only [Option.some.injEq, V.sl.injEq] at hr
        obtain ⟨_, rfl, rfl⟩ := hr
        rw [hc.1]
        exact hm.own E _ hc.2.1 hc.2.2
      · cases hr
    · cases hr

theorem clone_fn {U : Univ} {P : Program} {E0 : Env} {f n by' e : Nat} (h : CloneOK P f n by' e) {m : Mod U} (hm : ∀ x a, m.fn x = some a → ∃ xs, encArgs m.ts x = [.sl false n xs] ∧ U.enc m.rt a = .sl false n xs ∧ xs.length * by' ≤ lim ∧ xs.length ≤ maxLen) : FnOK P E0 f m := by
  refine ⟨h.entered, fun x a hx => ?_⟩
  obtain ⟨xs, h1, h2, h3, h4⟩ := hm x a hx
  rw [h1, h2]
  exact h.pure E0 xs h3 h4

noncomputable def EC (P : Program) (gl : Nat → Option (List V)) (fs : List FuncId) (pu : FuncId → Bool) (bad : List (Nat × Nat) := []) (cl : List (Nat × Nat × Nat × Nat) := []) : Env :=
  { plainEnv P pu (envCl cl) with
    func := fun g => if fs.contains g then P.funcs[g]? else none
    glob := gl
    own := ownCl cl
    calm := fun f id => !(bad.any fun p => p.1 == f && p.2 == id) }

noncomputable def ecCheck (P : Program) (gl : Nat → Option (List V)) (fs : List FuncId) (pu : FuncId → Bool) (bad : List (Nat × Nat) := []) (cl : List (Nat × Nat × Nat × Nat) := []) : Bool :=
  fs.all fun g => match P.funcs[g]? with
    | some fn => !(fn.name == "runtime.NumGoroutine") && (match fn.body with | some c => calmC (EC P gl fs pu bad cl) g c | none => true)
    | none => true

theorem EC_ok {P : Program} {gl : Nat → Option (List V)} {fs : List FuncId} {pu : FuncId → Bool} {bad : List (Nat × Nat)} {cl : List (Nat × Nat × Nat × Nat)} (hmix : P.follows .mixedOrders = true) (hck : ecCheck P gl fs pu bad cl = true) : EnvOK (EC P gl fs pu bad cl) := by
  have hck := List.all_eq_true.1 hck
  refine ⟨fun t i h => h, ?_, hmix, ?_, ?_, ?_, ?_, fun t ks h => h, ?_⟩
  · intro g fn h
    simp only [EC] at h
    split at h
    · rename_i hg
      have := hck g (by simpa using hg)
      rw [h] at this
      simp only [Bool.and_eq_true, Bool.not_eq_true'] at this
      exact ⟨h, this.1⟩
    · cases h
  · intro g fn c h hb
    simp only [EC] at h
    grind
  · intro t k h
    simp only [EC, plainEnv] at h
    split at h
    · rename_i d hd
      simp only [Option.some.injEq] at h
      subst h
      exact hd
    · cases h
  · intro t h
    simp only [EC, plainEnv] at h
    split at h
    · rename_i hd; exact hd
    · cases h
  · intro t h
    simp only [EC, plainEnv] at h
    split at h
    · rename_i hd; exact hd
    · cases h
  · intro t h
    simp only [EC, plainEnv] at h
    split at h
    · rename_i e he
      split at h
      · rename_i hd; exact ⟨e, he, hd⟩
      · cases h
    · cases h

theorem trodAll_len {H : Type} {enc : TypeId × Value → H} {P : Program} {w : World} {base : Nat} {spare : Nat → Bool} {held : Bool} : ∀ {ts : List TypeId} {vs : List Value} {ds : List (DataW H)} {ps : List MemPlace}, DataW.TrodAll enc P w base spare held ts vs ds ps → ds.length = ts.length
  | [], [], [], _, _ => rfl
  | _ :: _, _ :: _, _ :: _, _, ⟨_, _, _, h, _⟩ => congrArg (· + 1) (trodAll_len h)

/-- A function without arguments that the kernel has run. -/
theorem closed_ok {U : Univ} {P : Program} {gl : Nat → Option (List V)} {fs : List FuncId} {pu : FuncId → Bool} {bad : List (Nat × Nat)} {cl : List (Nat × Nat × Nat × Nat)} {E0 : Env} (hE0 : E0.glob = gl) (hmix : P.follows .mixedOrders = true) (hck : ecCheck P gl fs pu bad cl = true) (hcl : ∀ p ∈ cl, CloneOK P p.1 p.2.1 p.2.2.1 p.2.2.2) {f : FuncId} (hne : envCl cl f = none) (hf : fs.contains f = true) (hp : pu f = true) {fn : Func} (hfn : P.funcs[f]? = some fn)
    (hb : fn.body.isNone = false) {n : Nat} {m : Mod U} (hts : m.ts = []) {a : U.Ty m.rt} (hm : ∀ x, m.fn x = some a) (h : (callD (EC P gl fs pu bad cl) (n + 1) f [] []).map (·.1) = some (U.enc m.rt a)) : FnOK P E0 f m := by
  have hE := EC_ok hmix hck
  have hname : (fn.name == "runtime.NumGoroutine") = false := (hE.func f fn (by simp only [EC, hf, if_true]; exact hfn)).2
  refine ⟨⟨fn, hfn, hb, hname⟩, fun x a' hx => ?_⟩
  rw [hm x] at hx
  cases hx
  cases hc : callD (EC P gl fs pu bad cl) (n + 1) f [] [] with
  | none => simp [hc] at h
  | some rr =>
    obtain ⟨r, H'⟩ := rr
    simp only [hc, Option.map_some, Option.some.injEq] at h
    subst h
    have hpf := pureFn_of hE rfl (envCl_fns rfl rfl (fun _ _ => rfl) (fun _ => rfl) hcl) hp hne rfl rfl hc
    have he : encArgs m.ts x = [] := by
      have hl := encArgs_length x
      exact List.eq_nil_of_length_eq_zero (by rw [hl, congrArg List.length hts]; rfl)
    rw [he]
    intro fz w vs hcells hg hr
    exact hpf fz w vs hcells (fun g r hh => hg g r (by rw [hE0]; exact hh)) hr

end Go.Proofs.YtpikcdlhgiooaaaGreat.Le

/-
  slices.Clone: the one function that asks whether a slice is nil.
-/
namespace Go.Proofs.YtpikcdlhgiooaaaGreat.Le
set_option linter.unusedVariables false
open Go.RowKit (Below)

def nilC : Operand := .const (.slice none 0 0)

def cloneA (t : TypeId) : Code := .seq (.region 2 #[.mk (some 2) (.assign nilC) t "slices.go:358" #[] none] false) .ret
def cloneB (t : TypeId) : Code := .seq (.region 3 #[.mk (some 5) (.buildSlice t 0 #[]) t "slices.go:362" #[] none, .mk (some 6) (.move (.tmp 0)) t "slices.go:362" #[] none,
  .mk (some 7) (.call (.mk (.builtin .append) #[.tmp 5, .tmp 6] #[t, t])) t "slices.go:362" #[.mk 0 .data, .mk 1 .data] none,
  .mk (some 2) (.assign (.tmp 7)) t "slices.go:362" #[.mk 2 .data, .mk 2 .chain, .mk 0 .phase, .mk 1 .phase, .mk 2 .phase] none] false) .ret
def cloneR1 (t tb : TypeId) : Array Oper := #[.mk (some 3) (.move (.tmp 0)) t "slices.go:357" #[] none, .mk (some 4) (.binOp .eql t (.tmp 3) nilC t) tb "slices.go:357" #[.mk 0 .data] none]
def cloneC (t tb : TypeId) : Code :=
  .seq (.region 0 #[.mk (some 2) (.assign nilC) t "slices.go:355" #[] none] false) (.seq (.seq (.region 1 (cloneR1 t tb) false) (.cond (.tmp 4) (cloneA t) .skip)) (cloneB t))

section
variable {P : Program} {E : Env} {B : Nat} {w0 : Start} {call : CallF}

theorem run_eqIn_nil (w : World) (d : Nat) (t e : TypeId) (a : Option Addr) (l c : Nat) (h : P.underlying t = some (.slice e)) : (Op.equalIn (d + 1) t (.slice a l c) (.slice none 0 0)).run P w = .ok a.isNone w := by
  cases a <;> simp [Op.equalIn, run_underlying h]
theorem run_eq_nil (w : World) (t e : TypeId) (a : Option Addr) (l c : Nat) (h : P.underlying t = some (.slice e)) : (Op.equal t (.slice a l c) (.slice none 0 0)).run P w = .ok a.isNone w := run_eqIn_nil w 9999 t e a l c h

/-- The question whether a slice is nil: it is answered, one way or the other. -/
theorem nil_asked {t e : TypeId} {y z : Operand} {v : Value} {w : World} (ht : P.underlying t = some (.slice e)) (hv : ∃ a n c, v = .slice a n c ∧ (a = none → n = 0)) :
    ∃ b, (do eqGuard .eql t y z v (.slice none 0 0); binOp .eql t v (.slice none 0 0)).run P w = .ok (.bool b) w ∧ (b = true → ∃ c, v = .slice none 0 c) := by
  obtain ⟨a, n, c, rfl, h0⟩ := hv
  refine ⟨a.isNone, ?_, fun h => ?_⟩
  · simp only [Sem.run_bind]
    rw [eqGuard_plain _ _ _ _ _ _ (by simp) (by simp)]
    simp [binOp, run_eq_nil w t e a n c ht]
  simp_all

/-- A region that moves a slice and asks whether it is nil. -/
theorem asked_ok (hE : EnvOK E) (hP : E.P = P) (hcall : CallOK P E B w0 call) {id : Nat} {t tb e n : TypeId} (ht : P.underlying t = some (.slice e)) {st : St} {σ : Sg} {a : Act} {w : World} (hr : Rel E B w0 σ st a w)
    {xs : List V} (hx : ev E st.s (.tmp 0) = .sl false n xs) (h3 : 3 < st.s.length) {Q : Exit → Act → World → Prop}
    (hq : ∀ b a', Rel E B w0 σ ⟨setSlot (setSlot st.s (some 3) (.sl false n xs)) (some 4) (.lit (.bool b)), st.H⟩ a' w → (b = true → xs = []) → Q .normal a' w) :
    (Code.region id (cloneR1 t tb) false).wp P Q a w := by
  refine wp_region ?_
  show wpOps P (cloneR1 t tb) Q [0, 1] a w
  have hv : ∃ v, a.eval (.tmp 0) = v ∧ Reps σ w [.sl false n xs] [v] := by
    have := ev_reps (a := a) hr.glob hr.slots (.tmp 0)
    rw [hx] at this
    exact ⟨_, rfl, this⟩
  obtain ⟨v, hv, hrv⟩ := hv
  rw [wpOps_cons]
  unfold wpOp
  have h0 : (cloneR1 t tb)[0]? = some (.mk (some 3) (.move (.tmp 0)) t "slices.go:357" #[] none) := rfl
  have h1 : (cloneR1 t tb)[1]? = some (.mk (some 4) (.binOp .eql t (.tmp 3) nilC t) tb "slices.go:357" #[.mk 0 .data] none) := rfl
  simp only [h0]
  rw [if_pos (show Region.wanted _ _ = true from rfl)]
  refine .inl (wp_value (s := pure v) (u := v) (w' := w) (by unfold execOp; simp [hv]) (by simp [Sem.run_pure]) ?_)
  rw [wpOps_cons]
  unfold wpOp
  simp only [h1]
  rw [if_pos (show Region.wanted _ _ = true from rfl)]
  have hr1 : Rel E B w0 σ ⟨setSlot st.s (some 3) (.sl false n xs), st.H⟩ (a.put (some 3) v) w := ⟨hr.inv, hr.glob, put_slots hr.slots hrv (some 3), put_calm hr.calm _ _⟩
  have hev : (a.put (some 3) v).eval (.tmp 3) = v := by
    have : 3 < a.tmps.size := by
      have := hr.slots.length
      simp only [Array.length_toList] at this
      omega
    simp [Act.put, Act.eval, this]
  have hsh : ∃ a n c, v = .slice a n c ∧ (a = none → n = 0) ∧ (a = none → xs = []) := by
    cases hrv with
    | slnil _ => grind
    | slemp a _ => grind
    | sl b o c e' h1 h2 h3 h4 h5 h6 h7 _ => grind
  obtain ⟨va, vn, vc, hvs, hvn, hvx⟩ := hsh
  obtain ⟨b, hb1, hb2⟩ := nil_asked (P := P) (t := t) (e := e) (y := .tmp 3) (z := nilC) (w := w) ht ⟨va, vn, vc, hvs, hvn⟩
  refine .inl (wp_value (s := do eqGuard .eql t (.tmp 3) nilC v (.slice none 0 0); binOp .eql t v (.slice none 0 0)) (u := .bool b) ?_ hb1 ?_)
  · unfold execOp
    simp only [hev]
    rfl
  · show Q .normal _ _
    refine hq b _ ⟨hr1.inv, hr1.glob, put_slots hr1.slots (.lit rfl .nil) (some 4), put_calm hr1.calm _ _⟩ (fun h => ?_)
    simp_all

/-- **slices.Clone.** -/
theorem clone_key (hmix : P.follows .mixedOrders = true) {f : FuncId} {fn : Func} {t tb e : TypeId} {i1 i2 : Nat} {iz : Option V} {ei : TI} {z : V} (hfn : P.funcs[f]? = some fn) (hbody : fn.body = some (cloneC t tb)) (hnt : fn.ntmps = 8) (hres : fn.results = #[.tmp 2])
    (hti : tiOf P t = some ⟨.slice e, i1, i2, iz⟩) (htu : P.underlying t = some (.slice e)) (hei : tiOf P e = some ei) (hez : ei.zero = some z) (hpos : 0 < ei.size) (hzl : z.cells.length = ei.size) (hzo : okV z = true)
    {xs : List V} (h1 : xs.length * ei.bytes ≤ lim) (h2 : xs.length ≤ maxLen) (fz : Nat → Nat → Prop) (w : World) (vs : List Value) (hcells : ∀ b c, fz b c → ∃ u, w.cell? ⟨b, c, none⟩ = some u) (hr : Reps (bare fz) w [.sl false ei.size xs] vs) :
    Calls P f vs.toArray w fun e' w' => ∃ u σ', e' = .returned u ∧ Inv w.heap.size (Start.of w fz) σ' [newBox true false e ei.size [], newBox true false e ei.size xs] w' ∧ Ext (bare fz) w σ' w' ∧ Reps σ' w' [.lsl 1 0 xs.length xs.length] [u] := by
  have hck : ecCheck P (fun _ => none) [] (fun _ => false) [] = true := rfl
  have hE := EC_ok (P := P) (gl := fun _ => none) (fs := []) (pu := fun _ => false) (bad := []) hmix hck
  generalize hE0 : EC P (fun _ => none) [] (fun _ => false) [] = E0 at hE
  have hP : E0.P = P := by rw [← hE0]; rfl
  have t1 : E0.ti t = some ⟨.slice e, i1, i2, iz⟩ := by rw [← hE0]; exact hti
  have t2 : E0.ti e = some ei := by rw [← hE0]; exact hei
  have hcm : ∀ g id, E0.calm g id = true := fun g id => by rw [← hE0]; rfl
  have hI : Inv w.heap.size (Start.of w fz) (bare fz) [] w := ⟨Below.refl _ w, Nat.le_refl _, fun id L hL => (by cases hL), fun id bx hb => by simp at hb, fun i j b1 b2 L1 L2 g h1 => by simp at h1, hcells,
    fun b c hc id bx L hb => by simp at hb, fun id bx hb => by simp at hb, fun b c hc _ => hc, fun b hb => hb.elim, ⟨fun id b hb => by simp at hb, fun id g h => (by cases h), fun id id' g h => (by cases h)⟩⟩
  have hg0 : GlobOK E0 (bare fz) w := fun g r hh => by rw [← hE0] at hh; cases hh
  have hcall : CallOK P E0 w.heap.size (Start.of w fz) (callD E0 0) := fun f args H x H' σ w vs h => by cases h
  have hpure : CallsOK E0 (callD E0 0) := callD_calls 0
  have hlp := loop_ok (f := f) hE hP hcall hpure 0
  · refine calls_of_wp hfn hbody ?_
    have hslots : Reps (bare fz) w ([.sl false ei.size xs] ++ List.replicate 7 vundef) (vs.toArray ++ Array.replicate (fn.ntmps - vs.toArray.size) undef).toList := by
      simp only [Array.toList_append, Array.toList_replicate, List.size_toArray]
      rw [← hr.length, hnt]
      exact hr.append (Reps.replicate _ (.no .nil))
    have hrel : Rel E0 w.heap.size (Start.of w fz) (bare fz) ⟨[.sl false ei.size xs] ++ List.replicate 7 vundef, []⟩ { tmps := vs.toArray ++ Array.replicate (fn.ntmps - vs.toArray.size) undef, defers := [] } w := ⟨hI, hg0, hslots, rfl⟩
    have hfin : ∀ (s : List V), resultsD E0 [newBox true false e ei.size [], newBox true false e ei.size xs] s fn.results.toList = some (.lsl 1 0 xs.length xs.length) → ∀ a' w' σ', Rel E0 w.heap.size (Start.of w fz) σ' ⟨s, [newBox true false e ei.size [], newBox true false e ei.size xs]⟩ a' w' → Ext (bare fz) w σ' w' →
        a'.defers = [] ∧ ∃ v, (results fn a'.tmps).run P w' = .ok v w' ∧ (fun e' w' => ∃ u σ', e' = Ending.returned u ∧ Inv w.heap.size (Start.of w fz) σ' [newBox true false e ei.size [], newBox true false e ei.size xs] w' ∧ Ext (bare fz) w σ' w' ∧ Reps σ' w' [.lsl 1 0 xs.length xs.length] [u]) (.returned v) w' := by
      intro s hx a' w' σ' hr' he'
      obtain ⟨u, hu, hur⟩ := results_ok (P := P) hE hP hr'.inv hr'.slots hx
      exact ⟨hr'.calm, u, hu, u, σ', rfl, hr'.inv, he', hur⟩
    have c0 : ∀ lp, codeD (callD E0 0) lp E0 f (.region 0 #[.mk (some 2) (.assign nilC) t "slices.go:355" #[] none] false) ⟨[.sl false ei.size xs] ++ List.replicate 7 vundef, []⟩ =
        some (.normal, ⟨[.sl false ei.size xs, vundef, .lsl 0 0 0 0, vundef, vundef, vundef, vundef, vundef], [newBox true false e ei.size []]⟩) := by
      intro lp
      simp [codeD, opsD, stepD, stepAt, actD, opD, nilC, t1, Env.size, t2, place, setSlot, List.range, List.range.loop, List.replicate]
    refine wp_seq (code_ok hE hP hcall hpure hlp _ _ .normal _ rfl (c0 _) _ _ _ _ hrel (fun a1 w1 σ1 hr1 he1 => ?_))
    show (Code.seq _ _).wp P _ a1 w1
    refine wp_seq (wp_seq (asked_ok hE hP hcall htu hr1 (xs := xs) (n := ei.size) rfl (by simp) (fun b a2 hr2 hb => ?_)))
    show (Code.cond _ _ _).wp P _ a2 w1
    refine wp_cond (t := b) ?_ ?_
    · have := ev_reps (a := a2) hr2.glob hr2.slots (.tmp 4)
      generalize a2.eval (.tmp 4) = v4 at this ⊢
      simp only [ev, setSlot] at this
      cases this with
      | lit _ _ => rfl
    · cases b with
      | true =>
        have hx := hb rfl
        subst hx
        have cA : ∀ lp, codeD (callD E0 0) lp E0 f (cloneA t) ⟨setSlot (setSlot [.sl false ei.size [], vundef, .lsl 0 0 0 0, vundef, vundef, vundef, vundef, vundef] (some 3) (.sl false ei.size [])) (some 4) (.lit (.bool true)), [newBox true false e ei.size []]⟩ =
            some (.ret, ⟨[.sl false ei.size [], vundef, .lsl 1 0 0 0, .sl false ei.size [], .lit (.bool true), vundef, vundef, vundef], [newBox true false e ei.size [], newBox true false e ei.size []]⟩) := by
          intro lp
          simp [cloneA, codeD, opsD, stepD, stepAt, actD, opD, nilC, t1, Env.size, t2, place, setSlot, List.range, List.range.loop]
        refine code_ok hE hP hcall hpure hlp _ _ .ret _ rfl (cA _) _ _ _ _ hr2 (fun a3 w3 σ3 hr3 he3 => ?_)
        exact hfin _ (by rw [hres]; rfl) a3 w3 σ3 hr3 (he1.trans he3)
      | false =>
        refine wp_skip ?_
        show (cloneB t).wp P _ a2 w1
        have cB : ∀ lp, codeD (callD E0 0) lp E0 f (cloneB t) ⟨setSlot (setSlot [.sl false ei.size xs, vundef, .lsl 0 0 0 0, vundef, vundef, vundef, vundef, vundef] (some 3) (.sl false ei.size xs)) (some 4) (.lit (.bool false)), [newBox true false e ei.size []]⟩ =
            some (.ret, ⟨[.sl false ei.size xs, vundef, .lsl 1 0 xs.length xs.length, .sl false ei.size xs, .lit (.bool false), .lsl 1 0 0 0, .sl false ei.size xs, .lsl 1 0 xs.length xs.length], [newBox true false e ei.size [], newBox true false e ei.size xs]⟩) := by
          intro lp
          have hzk : ei.zok = true := by simp [TI.zok, hez, hzl, hzo]
          simp [cloneB, codeD, opsD, stepD, stepAt, actD, opD, t1, t2, place, setSlot, List.range, List.range.loop, buildSliceD, hez, frzAll, hpos, hzl, hzo, fillE, bump, ev, evs, builtinD, appendD, elemsOf, eszIs, boxAt, newBox, h1, h2, hzk]
        refine code_ok hE hP hcall hpure hlp _ _ .ret _ rfl (cB _) _ _ _ _ hr2 (fun a3 w3 σ3 hr3 he3 => ?_)
        exact hfin _ (by rw [hres]; rfl) a3 w3 σ3 hr3 (he1.trans he3)

theorem clone_pure (hmix : P.follows .mixedOrders = true) {f : FuncId} {fn : Func} {t tb e : TypeId} {i1 i2 : Nat} {iz : Option V} {ei : TI} {z : V} (hfn : P.funcs[f]? = some fn) (hbody : fn.body = some (cloneC t tb)) (hnt : fn.ntmps = 8) (hres : fn.results = #[.tmp 2])
    (hti : tiOf P t = some ⟨.slice e, i1, i2, iz⟩) (htu : P.underlying t = some (.slice e)) (hei : tiOf P e = some ei) (hez : ei.zero = some z) (hpos : 0 < ei.size) (hzl : z.cells.length = ei.size) (hzo : okV z = true)
    {xs : List V} (h1 : xs.length * ei.bytes ≤ lim) (h2 : xs.length ≤ maxLen) : PureFn P E f [.sl false ei.size xs] (.sl false ei.size xs) := by
  intro fz w vs hcells hg hr
  refine (clone_key hmix hfn hbody hnt hres hti htu hei hez hpos hzl hzo h1 h2 fz w vs hcells hr).mono ?_
  rintro e' w' ⟨u, σ', rfl, hI', hEx', hr'⟩
  have hfr : frzT [newBox true false e ei.size [], newBox true false e ei.size xs] (.lsl 1 0 xs.length xs.length) = some (.sl false ei.size xs) := by simp [frzT, frz, frz0, boxAt, newBox]
  obtain ⟨hI2, hEx2⟩ := hI'.freeze (idsT (.lsl 1 0 xs.length xs.length))
  have hr2 := frzT_reps hI' hr' hfr (idsT (.lsl 1 0 xs.length xs.length)) (fun i hi => hi)
  have hn := frzT_noRef hI' hr' hfr
  refine ⟨u, _, rfl, hI2.below, fun b c h => (hEx2.fz b c (hEx'.fz b c h).1).1, fun b c h hlt => hI2.old b c h hlt, hI2.cells, ?_, hn⟩
  exact hr2.bare (fun b c h => ⟨h, rfl⟩) (by simp [noRefs, hn])

theorem clone_own (hmix : P.follows .mixedOrders = true) {f : FuncId} {fn : Func} {t tb e : TypeId} {i1 i2 : Nat} {iz : Option V} {ei : TI} {z : V} (hfn : P.funcs[f]? = some fn) (hbody : fn.body = some (cloneC t tb)) (hnt : fn.ntmps = 8) (hres : fn.results = #[.tmp 2])
    (hti : tiOf P t = some ⟨.slice e, i1, i2, iz⟩) (htu : P.underlying t = some (.slice e)) (hei : tiOf P e = some ei) (hez : ei.zero = some z) (hpos : 0 < ei.size) (hzl : z.cells.length = ei.size) (hzo : okV z = true)
    {xs : List V} (h1 : xs.length * ei.bytes ≤ lim) (h2 : xs.length ≤ maxLen) : PureOwn P E f [.sl false ei.size xs] e ei.size xs := by
  intro fz w vs hcells hg hr
  have hfzv : ∀ x ∈ xs, fzV x = true := by
    cases hr with
    | slnil _ => simp
    | slemp a _ => simp
    | sl b o c e' k1 k2 k3 k4 k5 k6 k7 _ => exact k2
  refine (clone_key hmix hfn hbody hnt hres hti htu hei hez hpos hzl hzo h1 h2 fz w vs hcells hr).mono ?_
  rintro e' w' ⟨u, σ', rfl, hI', hEx', hr'⟩
  obtain ⟨L, hL, hok⟩ := hI'.boxes 1 _ rfl rfl
  obtain ⟨us, k1, k2, k3, k4⟩ := hok.reps
  have htot : L.tot = xs.length := hok.tot
  have hesz : L.esz = ei.size := hok.esz.symm
  have hu : u = L.v := by
    cases hr' with
    | lsl q1 q2 q3 q4 _ =>
      rw [hL] at q1
      cases q1
      obtain ⟨_, a, n, c, k, r1, r2, r3, r4, _⟩ := q3 htot
      have hk0 : k = 0 := by omega
      subst hk0
      rw [r2, r1]
      rcases k4.2 with ⟨hv, hn⟩ | ⟨g, cap, cur, tg, hv, _⟩
      · rw [r1] at hv
        cases hv
        have : xs.length = 0 := hn
        simp [this]
      · rw [r1] at hv
        cases hv
        simp [Addr.add, newBox]
  subst hu
  refine ⟨L.v, us, σ'.fz, rfl, hI'.below, fun b c h => (hEx'.fz b c h).1, fun b c h hlt => hI'.old b c h hlt, hI'.cells, k1.bare (fun b c h => ⟨h, rfl⟩) (fzV_noRefs hfzv), hfzv, fun x hx => by rw [k2 x hx, hesz], k3, by rw [← hesz]; exact k4, fun g c hg' hfz => ?_⟩
  have := hI'.floor g c hfz 1 _ L rfl rfl hL hg'
  simp [newBox] at this

theorem clone_ok (hmix : P.follows .mixedOrders = true) {f : FuncId} {fn : Func} {t tb e : TypeId} (hfn : P.funcs[f]? = some fn) (hbody : fn.body = some (cloneC t tb)) (hnt : fn.ntmps = 8) (hres : fn.results = #[.tmp 2]) (hname : (fn.name == "runtime.NumGoroutine") = false)
    (hti : (tiOf P t).map TI.ty = some (.slice e)) (htu : P.underlying t = some (.slice e)) {n by' : Nat} (hei : (tiOf P e).map (fun i => (i.size, i.bytes, i.zok)) = some (n, by', true)) (hpos : 0 < n) : CloneOK P f n by' e := by
  cases h1 : tiOf P t with
  | none => simp_all
  | some ti =>
    cases h2 : tiOf P e with
    | none => simp_all
    | some ei =>
      rw [h1] at hti
      rw [h2] at hei
      simp only [Option.map_some, Option.some.injEq, Prod.mk.injEq] at hti hei
      obtain ⟨ty, i1, i2, iz⟩ := ti
      simp only at hti
      subst hti
      obtain ⟨rfl, rfl, hz⟩ := hei
      unfold TI.zok at hz
      split at hz
      · rename_i z hz0
        simp only [Bool.and_eq_true, beq_iff_eq] at hz
        exact ⟨⟨fn, hfn, by rw [hbody]; rfl, hname⟩, fun E xs h3 h4 => clone_pure hmix hfn hbody hnt hres h1 htu h2 hz0 hpos hz.2 hz.1 h3 h4, fun E xs h3 h4 => clone_own hmix hfn hbody hnt hres h1 htu h2 hz0 hpos hz.2 hz.1 h3 h4⟩
      · cases hz

/-- slices.Clone as a function that leaves a box. -/
theorem clone_hfn {U : Univ} {E0 : Env} {f n by' e : Nat} (h : CloneOK P f n by' e) {m : HMod U}
    (hm : ∀ (x : m.sin.X U) (y : U.Ty m.ky), m.fn x = some y → ∃ xs, toVs U (m.sin.enc x).1 = [.sl false n xs] ∧ toH U (m.sin.enc x).2 = [] ∧ toV U (m.out y).1 = .lsl 0 0 xs.length xs.length ∧ toH U (m.out y).2 = [newBox true false e n xs] ∧ xs.length * by' ≤ lim ∧ xs.length ≤ maxLen) : HFnOK P E0 f m := by
  refine ⟨h.entered, fun x y hx => ?_⟩
  obtain ⟨xs, h1, h2, h3, h4, h5, h6⟩ := hm x y hx
  rw [h1, h2, h3, h4]
  intro B w0 σ w vs _ hI hg hr
  have := own_calls (P := P) (E := E0) (f := f) (e := e) (sz := n) (xs := xs) (as := [.sl false n xs]) [] (by simpa [retypeAll] using h.own E0 xs h5 h6) rfl hI hg hr
  exact this

end

end Go.Proofs.YtpikcdlhgiooaaaGreat.Le

/-
  Functions without arguments, run by the kernel, with contracts of some functions given.
-/
namespace Go.Proofs.YtpikcdlhgiooaaaGreat.Le
set_option linter.unusedVariables false

/-- Functions whose answers are given. -/
def envX (ex : FuncId → Option (List V → Option V)) (cl : List (Nat × Nat × Nat × Nat)) : FuncId → Option (List V → Option V) := fun g => match ex g with | some F => some F | none => envCl cl g
def ownX (ex : FuncId → Option (List V → Option V)) (cl : List (Nat × Nat × Nat × Nat)) : FuncId → Option TypeId := fun g => match ex g with | some _ => none | none => ownCl cl g
structure GivenOK (P : Program) (gl : Nat → Option (List V)) (f : FuncId) (F : List V → Option V) : Prop where
  entered : Entered P f
  pure : ∀ (E : Env) (as : List V) (r : V), E.glob = gl → F as = some r → PureFn P E f as r

/-- slices.Clone as a call that leaves a box. -/
def cloneHS (n by' e : Nat) : HSpec where
  fa := [[.s e n]]
  fb := []
  run := fun as H => match as, H with
    | [.sl false m xs], [] => if m = n ∧ xs.length * by' ≤ lim ∧ xs.length ≤ maxLen then some (.lsl 0 0 xs.length xs.length, [newBox true false e n xs]) else none
    | _, _ => none
def hmL (hl : List (Nat × Nat × Nat × Nat)) : FuncId → List FuncId → Option HSpec := fun g key => match key with
  | [] => (hl.find? fun p => p.1 == g).map fun p => cloneHS p.2.1 p.2.2.1 p.2.2.2
  | _ => none
theorem cloneHS_ok {P : Program} {E : Env} {f n by' e : Nat} (h : CloneOK P f n by' e) {as : List V} {H0 H1 : Heap} {r : V} (hr : (cloneHS n by' e).run as H0 = some (r, H1)) : HeapFn P E f as H0 r H1 := by
  simp only [cloneHS] at hr
  split at hr
  · rename_i m xs
    split at hr
    · rename_i hc
      obtain ⟨rfl, h1, h2⟩ := hc
      simp only [Option.some.injEq, Prod.mk.injEq] at hr
      obtain ⟨rfl, rfl⟩ := hr
      intro B w0 σ w vs _ hI hg hrp
      have := own_calls (P := P) (E := E) (f := f) (e := e) (sz := m) (xs := xs) (as := [.sl false m xs]) [] (by simpa [retypeAll] using h.own E xs h1 h2) rfl hI hg hrp
      exact this
    · cases hr
  · cases hr
theorem hmL_ok {P : Program} {E : Env} {hl : List (Nat × Nat × Nat × Nat)} (h : ∀ p ∈ hl, CloneOK P p.1 p.2.1 p.2.2.1 p.2.2.2) {f : FuncId} {key : List FuncId} {hs : HSpec} (hh : hmL hl f key = some hs) :
    Entered P f ∧ ∀ as H0 r H1, hs.run as H0 = some (r, H1) → HeapFn P E f as H0 r H1 := by
  unfold hmL at hh
  split at hh
  · cases hp : hl.find? (fun p => p.1 == f) with
    | none => simp [hp] at hh
    | some p =>
      simp only [hp, Option.map_some, Option.some.injEq] at hh
      subst hh
      have hm := h p (List.mem_of_find?_eq_some hp)
      have hf : p.1 = f := by simpa using List.find?_some hp
      rw [hf] at hm
      exact ⟨hm.entered, fun as H0 r H1 hr => cloneHS_ok hm hr⟩
  · cases hh

theorem envX_fns {P : Program} {gl : Nat → Option (List V)} {E : Env} {ex : FuncId → Option (List V → Option V)} {cl : List (Nat × Nat × Nat × Nat)} (hg : E.glob = gl) (hE : E.env = envX ex cl) (ho : E.own = ownX ex cl) {hl : List (Nat × Nat × Nat × Nat)} (hhm : E.hm = hmL hl) (hhl : ∀ p ∈ hl, CloneOK P p.1 p.2.1 p.2.2.1 p.2.2.2) (hmk : ∀ f, E.maps f = none) (h : ∀ p ∈ cl, CloneOK P p.1 p.2.1 p.2.2.1 p.2.2.2) (hx : ∀ g F, ex g = some F → GivenOK P gl g F) : EnvFns P E := by
  refine ⟨?_, fun f key hs h => hmL_ok hhl (by rw [← hhm]; exact h), hmk⟩
  intro f F hF
  rw [hE] at hF
  cases he : ex f with
  | some F' =>
    simp only [envX, he, Option.some.injEq] at hF
    subst hF
    refine ⟨(hx f _ he).entered, fun as r _ hr => ?_⟩
    rw [show E.own f = none by rw [ho]; simp only [ownX, he]]
    exact (hx f _ he).pure E as r hg hr
  | none =>
  simp only [envX, he] at hF
  unfold envCl at hF
  cases hp : cl.find? (fun p => p.1 == f) with
  | none => simp [hp] at hF
  | some p =>
    simp only [hp, Option.map_some, Option.some.injEq] at hF
    subst hF
    have hm := h p (List.mem_of_find?_eq_some hp)
    have hf : p.1 = f := by simpa using List.find?_some hp
    rw [hf] at hm
    have hown : E.own f = some p.2.2.2 := by rw [ho]; simp only [ownX, he]; unfold ownCl; rw [hp]; rfl
    refine ⟨hm.entered, fun as r _ hr => ?_⟩
    rw [hown]
    intro sz xs hr0
    subst hr0
    unfold cloneF at hr
    split at hr
    · split at hr
      · rename_i hc
        simp only [Option.some.injEq, V.sl.injEq] at hr
        obtain ⟨_, rfl, rfl⟩ := hr
        rw [hc.1]
        exact hm.own E _ hc.2.1 hc.2.2
      · cases hr
    · cases hr

noncomputable def EX (P : Program) (gl : Nat → Option (List V)) (fs : List FuncId) (pu : FuncId → Bool) (bad : List (Nat × Nat)) (cl : List (Nat × Nat × Nat × Nat)) (ex : FuncId → Option (List V → Option V)) (hl : List (Nat × Nat × Nat × Nat)) : Env :=
  { plainEnv P pu (envX ex cl) with
    func := fun g => if fs.contains g then P.funcs[g]? else none
    glob := gl
    own := ownX ex cl
    hm := hmL hl
    calm := fun f id => !(bad.any fun p => p.1 == f && p.2 == id) }

noncomputable def exCheck (P : Program) (gl : Nat → Option (List V)) (fs : List FuncId) (pu : FuncId → Bool) (bad : List (Nat × Nat)) (cl : List (Nat × Nat × Nat × Nat)) (ex : FuncId → Option (List V → Option V)) (hl : List (Nat × Nat × Nat × Nat)) : Bool :=
  fs.all fun g => match P.funcs[g]? with
    | some fn => !(fn.name == "runtime.NumGoroutine") && (match fn.body with | some c => calmC (EX P gl fs pu bad cl ex hl) g c | none => true)
    | none => true

theorem EX_ok {P : Program} {gl : Nat → Option (List V)} {fs : List FuncId} {pu : FuncId → Bool} {bad : List (Nat × Nat)} {cl : List (Nat × Nat × Nat × Nat)} {ex : FuncId → Option (List V → Option V)} {hl : List (Nat × Nat × Nat × Nat)} (hmix : P.follows .mixedOrders = true) (hck : exCheck P gl fs pu bad cl ex hl = true) : EnvOK (EX P gl fs pu bad cl ex hl) := by
  have hck := List.all_eq_true.1 hck
  refine ⟨fun t i h => h, ?_, hmix, ?_, ?_, ?_, ?_, fun t ks h => h, ?_⟩
  · intro g fn h
    simp only [EX] at h
    split at h
    · rename_i hg
      have := hck g (by simpa using hg)
      rw [h] at this
      simp only [Bool.and_eq_true, Bool.not_eq_true'] at this
      exact ⟨h, this.1⟩
    · cases h
  · intro g fn c h hb
    simp only [EX] at h
    grind
  · intro t k h
    simp only [EX, plainEnv] at h
    split at h
    · rename_i d hd
      simp only [Option.some.injEq] at h
      subst h
      exact hd
    · cases h
  · intro t h
    simp only [EX, plainEnv] at h
    split at h
    · rename_i hd; exact hd
    · cases h
  · intro t h
    simp only [EX, plainEnv] at h
    split at h
    · rename_i hd; exact hd
    · cases h
  · intro t h
    simp only [EX, plainEnv] at h
    split at h
    · rename_i e he
      split at h
      · rename_i hd; exact ⟨e, he, hd⟩
      · cases h
    · cases h

/-- A function run on values that are shown to it: what its body comes to. -/
noncomputable def runF (E : Env) (n : Nat) (f : FuncId) : List V → Option V := fun as => match E.func f with
  | some fn => (match bodyD (callD E n) n E f fn as [] with
    | some (r, H) => frzT H r
    | none => none)
  | none => none

theorem given_run {P : Program} {gl : Nat → Option (List V)} {fs : List FuncId} {pu : FuncId → Bool} {bad : List (Nat × Nat)} {cl : List (Nat × Nat × Nat × Nat)} (hmix : P.follows .mixedOrders = true) (hck : ecCheck P gl fs pu bad cl = true) (hcl : ∀ p ∈ cl, CloneOK P p.1 p.2.1 p.2.2.1 p.2.2.2) {f : FuncId} (hf : fs.contains f = true) {fn : Func} (hfn : P.funcs[f]? = some fn) (hb : fn.body.isNone = false) (n : Nat) : GivenOK P gl f (runF (EC P gl fs pu bad cl) n f) := by
  have hE := EC_ok hmix hck
  have hfe : (EC P gl fs pu bad cl).func f = some fn := by simp only [EC, hf, if_true]; exact hfn
  refine ⟨⟨fn, hfn, hb, (hE.func f fn hfe).2⟩, fun E as r hg hr => ?_⟩
  unfold runF at hr
  rw [hfe] at hr
  simp only at hr
  cases hbd : bodyD (callD (EC P gl fs pu bad cl) n) n (EC P gl fs pu bad cl) f fn as [] with
  | none => simp [hbd] at hr
  | some rr =>
    obtain ⟨r0, H2⟩ := rr
    simp only [hbd] at hr
    have hpf := body_pure hE rfl (callD_ok hE rfl (envCl_fns rfl rfl (fun _ _ => rfl) (fun _ => rfl) hcl) n) (callD_calls n) hfe hbd hr
    intro fz w vs hcells hg' hr'
    exact hpf fz w vs hcells (fun g r hh => hg' g r (by rw [hg]; exact hh)) hr'

theorem clone_given {P : Program} {gl : Nat → Option (List V)} {f n by' e : Nat} (h : CloneOK P f n by' e) : GivenOK P gl f (cloneF n by') := by
  refine ⟨h.entered, fun E as r _ hr => ?_⟩
  unfold cloneF at hr
  split at hr
  · split at hr
    · rename_i hc
      simp only [Option.some.injEq] at hr
      subst hr
      rw [hc.1]
      exact h.pure E _ hc.2.1 hc.2.2
    · cases hr
  · cases hr

/-- A function whose answers at some arguments are those of its model. -/
theorem given_of {U : Univ} {P : Program} {gl : Nat → Option (List V)} {E0 : Env} {f : FuncId} {m : Mod U} (hE0 : E0.glob = gl) (h : FnOK P E0 f m) {F : List V → Option V} (hF : ∀ as r, F as = some r → ∃ x a, as = encArgs m.ts x ∧ m.fn x = some a ∧ r = U.enc m.rt a) : GivenOK P gl f F := by
  refine ⟨h.entered, fun E as r hg hr => ?_⟩
  obtain ⟨x, a, rfl, ha, rfl⟩ := hF as r hr
  intro fz w vs hcells hg' hr'
  exact h.pure x a ha fz w vs hcells (fun g r hh => hg' g r (by rw [hg, ← hE0]; exact hh)) hr'

/-- A function without arguments that the kernel has run. -/
theorem closedX_ok {U : Univ} {P : Program} {gl : Nat → Option (List V)} {fs : List FuncId} {pu : FuncId → Bool} {bad : List (Nat × Nat)} {cl : List (Nat × Nat × Nat × Nat)} {ex : FuncId → Option (List V → Option V)} {hl : List (Nat × Nat × Nat × Nat)} {E0 : Env} (hE0 : E0.glob = gl) (hmix : P.follows .mixedOrders = true) (hck : exCheck P gl fs pu bad cl ex hl = true) (hx : ∀ g F, ex g = some F → GivenOK P gl g F) (hhl : ∀ p ∈ hl, CloneOK P p.1 p.2.1 p.2.2.1 p.2.2.2) (hcl : ∀ p ∈ cl, CloneOK P p.1 p.2.1 p.2.2.1 p.2.2.2) {f : FuncId} (hne : envX ex cl f = none) (hf : fs.contains f = true) (hp : pu f = true) {fn : Func} (hfn : P.funcs[f]? = some fn)
    (hb : fn.body.isNone = false) {n : Nat} {m : Mod U} (hts : m.ts = []) {a : U.Ty m.rt} (hm : ∀ x, m.fn x = some a) (h : (callD (EX P gl fs pu bad cl ex hl) (n + 1) f [] []).map (·.1) = some (U.enc m.rt a)) : FnOK P E0 f m := by
  have hE := EX_ok hmix hck
  have hname : (fn.name == "runtime.NumGoroutine") = false := (hE.func f fn (by simp only [EX, hf, if_true]; exact hfn)).2
  refine ⟨⟨fn, hfn, hb, hname⟩, fun x a' hx' => ?_⟩
  rw [hm x] at hx'
  cases hx'
  cases hc : callD (EX P gl fs pu bad cl ex hl) (n + 1) f [] [] with
  | none => simp [hc] at h
  | some rr =>
    obtain ⟨r, H'⟩ := rr
    simp only [hc, Option.map_some, Option.some.injEq] at h
    subst h
    have hpf := pureFn_of hE rfl (envX_fns (gl := gl) rfl rfl rfl rfl hhl (fun _ => rfl) hcl hx) hp hne rfl rfl hc
    have he : encArgs m.ts x = [] := by
      have hl := encArgs_length x
      exact List.eq_nil_of_length_eq_zero (by rw [hl, congrArg List.length hts]; rfl)
    rw [he]
    intro fz w vs hcells hg hr
    exact hpf fz w vs hcells (fun g r hh => hg g r (by rw [hE0]; exact hh)) hr

theorem given_runX {P : Program} {gl : Nat → Option (List V)} {fs : List FuncId} {pu : FuncId → Bool} {bad : List (Nat × Nat)} {cl : List (Nat × Nat × Nat × Nat)} {ex : FuncId → Option (List V → Option V)} {hl : List (Nat × Nat × Nat × Nat)} (hmix : P.follows .mixedOrders = true) (hck : exCheck P gl fs pu bad cl ex hl = true) (hx : ∀ g F, ex g = some F → GivenOK P gl g F) (hhl : ∀ p ∈ hl, CloneOK P p.1 p.2.1 p.2.2.1 p.2.2.2) (hcl : ∀ p ∈ cl, CloneOK P p.1 p.2.1 p.2.2.1 p.2.2.2) {f : FuncId} (hf : fs.contains f = true) {fn : Func} (hfn : P.funcs[f]? = some fn) (hb : fn.body.isNone = false) (n : Nat) : GivenOK P gl f (runF (EX P gl fs pu bad cl ex hl) n f) := by
  have hE := EX_ok hmix hck
  have hfe : (EX P gl fs pu bad cl ex hl).func f = some fn := by simp only [EX, hf, if_true]; exact hfn
  refine ⟨⟨fn, hfn, hb, (hE.func f fn hfe).2⟩, fun E as r hg hr => ?_⟩
  unfold runF at hr
  rw [hfe] at hr
  simp only at hr
  cases hbd : bodyD (callD (EX P gl fs pu bad cl ex hl) n) n (EX P gl fs pu bad cl ex hl) f fn as [] with
  | none => simp [hbd] at hr
  | some rr =>
    obtain ⟨r0, H2⟩ := rr
    simp only [hbd] at hr
    have hpf := body_pure hE rfl (callD_ok hE rfl (envX_fns (gl := gl) rfl rfl rfl rfl hhl (fun _ => rfl) hcl hx) n) (callD_calls n) hfe hbd hr
    intro fz w vs hcells hg' hr'
    exact hpf fz w vs hcells (fun g r hh => hg' g r (by rw [hg]; exact hh)) hr'

/-! Answers kept in a list. -/
mutual
def veq : V → V → Bool
  | .lit (.int k a), .lit (.int k' b) => k == k' && a == b
  | .lit (.bool a), .lit (.bool b) => a == b
  | .agg a, .agg b => veqs a b
  | .tup a, .tup b => veqs a b
  | .sl n e a, .sl n' e' b => n == n' && e == e' && veqs a b
  | _, _ => false
def veqs : List V → List V → Bool
  | [], [] => true
  | a :: as, b :: bs => veq a b && veqs as bs
  | _, _ => false
end
mutual
theorem veq_eq : ∀ (a b : V), veq a b = true → a = b
  | .lit u, b, h => by unfold veq at h; split at h <;> simp_all
  | .agg a, b, h => by
    unfold veq at h
    split at h <;> simp_all
    exact veqs_eq _ _ h
  | .tup a, b, h => by
    unfold veq at h
    split at h <;> simp_all
    exact veqs_eq _ _ h
  | .sl n e a, b, h => by
    unfold veq at h
    split at h <;> simp_all
    exact veqs_eq _ _ h.2
  | .slt .., b, h => by simp [veq] at h
  | .lsl .., b, h => by simp [veq] at h
  | .ptr .., b, h => by simp [veq] at h
  | .ept .., b, h => by simp [veq] at h
  | .fn .., b, h => by simp [veq] at h
  | .ifc .., b, h => by simp [veq] at h
  | .mpl .., b, h => by simp [veq] at h
  | .mref .., b, h => by simp [veq] at h
  | .no, b, h => by simp [veq] at h
  | .und, b, h => by simp [veq] at h
theorem veqs_eq : ∀ (a b : List V), veqs a b = true → a = b
  | [], b, h => by cases b <;> simp_all [veqs]
  | x :: xs, b, h => by
    cases b with
    | nil => simp [veqs] at h
    | cons y ys =>
      simp only [veqs, Bool.and_eq_true] at h
      rw [veq_eq x y h.1, veqs_eq xs ys h.2]
end
def tabF (l : List (List V × V)) : List V → Option V := fun as => (l.find? fun p => veqs p.1 as).map (·.2)
theorem tab_nil {F : List V → Option V} : ∀ p ∈ ([] : List (List V × V)), F p.1 = some p.2 := fun p h => by cases h
theorem tab_cons {F : List V → Option V} {x : List V} {y : V} {l : List (List V × V)} (h : F x = some y) (hl : ∀ p ∈ l, F p.1 = some p.2) : ∀ p ∈ (x, y) :: l, F p.1 = some p.2 := fun p hp => by
  rcases List.mem_cons.1 hp with rfl | hp
  · exact h
  · exact hl p hp
theorem given_tab {P : Program} {gl : Nat → Option (List V)} {f : FuncId} {F : List V → Option V} {l : List (List V × V)} (h : GivenOK P gl f F) (hl : ∀ p ∈ l, F p.1 = some p.2) : GivenOK P gl f (tabF l) :=
  ⟨h.entered, fun E as r hg hr => by
    unfold tabF at hr
    obtain ⟨p, hp, rfl⟩ := Option.map_eq_some_iff.1 hr
    have he : p.1 = as := veqs_eq _ _ (List.find?_some (p := fun p : List V × V => veqs p.1 as) hp)
    exact h.pure E as _ hg (he ▸ hl p (List.mem_of_find?_eq_some hp))⟩

theorem given_retype {P : Program} {gl : Nat → Option (List V)} {f : FuncId} {F : List V → Option V} (rs : List (List Nat)) (h : GivenOK P gl f F) : GivenOK P gl f (fun as => (F as).map (retypeR rs)) :=
  ⟨h.entered, fun E as r hg hr => by
    obtain ⟨r0, h0, rfl⟩ := Option.map_eq_some_iff.1 hr
    intro fz w vs hc hgl hrp
    refine (h.pure E as r0 hg h0 fz w vs hc hgl hrp).mono ?_
    rintro e w' ⟨u, fz', rfl, hb, h1, h2, h3, h4, h5⟩
    exact ⟨u, fz', rfl, hb, h1, h2, h3, retypeT_reps rs h4, retypeR_noRef rs _ h5⟩⟩
/-- A function whose model answers at some arguments alone, as is given. -/
theorem fn_of_given {U : Univ} {P : Program} {gl : Nat → Option (List V)} {E0 : Env} (hE0 : E0.glob = gl) {f : FuncId} {F : List V → Option V} (h : GivenOK P gl f F) {m : Mod U} (hF : ∀ x a, m.fn x = some a → F (encArgs m.ts x) = some (U.enc m.rt a)) : FnOK P E0 f m :=
  ⟨h.entered, fun x a hx => h.pure E0 _ _ hE0 (hF x a hx)⟩
def veqO : Option V → V → Bool
  | some a, b => veq a b
  | none, _ => false
theorem veqO_eq {a : Option V} {b : V} (h : veqO a b = true) : a = some b := by
  cases a with
  | none => cases h
  | some a => exact congrArg some (veq_eq _ _ h)

end Go.Proofs.YtpikcdlhgiooaaaGreat.Le

/-
  Calls that are given rows for good: the rows leave the caller, and what the call comes to has rows of its own.
-/
namespace Go.Proofs.YtpikcdlhgiooaaaGreat.Le
set_option linter.unusedVariables false
set_option linter.unusedSimpArgs false
open Go.RowKit (Below)

/-- What is known at the end of a call that keeps no box of its caller. -/
def FinM (P : Program) (fn : Func) (B : Nat) (w0 : Start) (σ0 : Sg) (ws : World) (r : V × Heap) (a : Act) (w : World) : Prop :=
  a.defers = [] ∧ ∃ u σ', (results fn a.tmps).run P w = .ok u w ∧ Inv B w0 σ' r.2 w ∧ ExtK 0 σ0 ws σ' w ∧ Reps σ' w [r.1] [u]

theorem finM_ok {P : Program} {E : Env} {B : Nat} {w0 : Start} {fn : Func} (hE : EnvOK E) (hP : E.P = P) {fa : List (List Fk)} {fb : List Bf} {σ0 : Sg} {ws : World} {σ : Sg} {st : St} {a : Act} {w : World} {r : V × Heap} (h : Rel E B w0 σ st a w) (hx : ExtK 0 σ0 ws σ w)
    (hz : Zh E fn fa fb 0 st r) : FinM P fn B w0 σ0 ws r a w := by
  obtain ⟨r0, hr, he⟩ := hz
  obtain ⟨u, hu, hur⟩ := results_ok (P := P) hE hP h.inv h.slots hr
  have key : ∀ {args as : List V} {vs : List Value} {ids : List Nat} {H2 : Heap}, Reps σ w args vs → pack fa fb 0 args st.H = some (ids, as, H2) → ids.take 0 = List.range 0 →
      ∃ σ', Inv B w0 σ' (subH H2 ids) w ∧ ExtK 0 σ0 ws σ' w ∧ Reps σ' w (renFs (ids.idxOf ·) as) vs := by
    intro args as vs ids H2 hra hp hk
    obtain ⟨hs, hm, _, σ1, hI1, hE1, hr1⟩ := pack_ok h.inv hra hp
    have hsub := sub_ok hI1 hs w0 hI1.below hI1.old (fun b hb => by
      obtain ⟨k1, k2, k3, k4⟩ := hI1.kept b hb
      grind)
    exact ⟨_, hsub, (hx.trans hE1).ren hk, sub_reps hr1 hm⟩
  refine ⟨h.calm, u, ?_⟩
  unfold exitV at he
  split at he
  · rename_i vs
    split at he
    · rename_i ids as H2 hp
      split at he
      · rename_i hk
        simp only [Option.some.injEq] at he
        subst he
        cases hur with
        | tup h1 _ =>
          obtain ⟨σ', i1, i2, i3⟩ := key h1 hp hk
          exact ⟨σ', hu, i1, i2, .tup i3 .nil⟩
      · cases he
    · cases he
  · split at he
    · rename_i ids x H2 hp
      split at he
      · rename_i hk
        simp only [Option.some.injEq] at he
        subst he
        obtain ⟨σ', i1, i2, i3⟩ := key hur hp hk
        exact ⟨σ', hu, i1, i2, i3⟩
      · cases he
    · cases he

/-- Boxes behind some that were given away. -/
def behind (m : Nat) (H : Heap) : Heap := List.replicate m goneBox ++ H.map (renBox (· + m))

theorem behind_get {m : Nat} {H : Heap} {i : Nat} {b : Box} (h : (behind m H)[i]? = some b) : (i < m ∧ b = goneBox) ∨ ∃ b0, m ≤ i ∧ H[i - m]? = some b0 ∧ b = renBox (· + m) b0 := by
  unfold behind at h
  rw [List.getElem?_append] at h
  split at h
  · rename_i hi
    rw [List.length_replicate] at hi
    exact .inl ⟨hi, (List.mem_replicate.1 (List.mem_of_getElem? h)).2⟩
  · rename_i hi
    rw [List.length_replicate] at hi h
    rw [List.getElem?_map, Option.map_eq_some_iff] at h
    obtain ⟨b0, h1, h2⟩ := h
    exact .inr ⟨b0, by omega, h1, h2.symm⟩

theorem behind_lt {m : Nat} (H : Heap) {i : Nat} (h : i < m) : (behind m H)[i]? = some goneBox := by
  unfold behind
  rw [List.getElem?_append, if_pos (by simpa using h)]
  simp [h]

theorem behind_ge {m : Nat} (H : Heap) (i : Nat) : (behind m H)[i + m]? = (H[i]?).map (renBox (· + m)) := by
  unfold behind
  rw [List.getElem?_append, if_neg (by simp)]
  simp

def Sg.behind (σ σ1 : Sg) (m : Nat) : Sg := ⟨fun i => if i < m then σ.box i else σ1.box (i - m), σ1.fz, fun i => if i < m then σ.mp i else σ1.mp (i - m)⟩

theorem gone_ok {B : Nat} {w0 : Start} {σ σ1 : Sg} {H0 H1 : Heap} {w w' : World} (h : Inv B w0 σ H0 w) (h1 : Inv B w0 σ1 H1 w') (hE : ExtK 0 σ w σ1 w') (hm0 : ∀ id, σ.mp id = none) :
    Inv B w0 (σ.behind σ1 H0.length) (behind H0.length H1) w' ∧ Ext σ w (σ.behind σ1 H0.length) w' := by
  have hge : ∀ {i : Nat}, H0.length ≤ i → (σ.behind σ1 H0.length).box i = σ1.box (i - H0.length) := by
    intro i hi
    simp only [Sg.behind, if_neg (Nat.not_lt.2 hi)]
  have hgm : ∀ {i : Nat}, H0.length ≤ i → (σ.behind σ1 H0.length).mp i = σ1.mp (i - H0.length) := by
    intro i hi
    simp only [Sg.behind, if_neg (Nat.not_lt.2 hi)]
  have hgl : ∀ {i g : Nat}, (σ.behind σ1 H0.length).mp i = some g → H0.length ≤ i ∧ σ1.mp (i - H0.length) = some g := by
    intro i g hm
    rcases Nat.lt_or_ge i H0.length with hi | hi
    · simp only [Sg.behind, if_pos hi, hm0] at hm
      cases hm
    · exact ⟨hi, by rw [← hgm hi]; exact hm⟩
  refine ⟨⟨h1.below, h1.size, ?_, ?_, ?_, h1.cells, ?_, ?_, h1.old, fun b hb => ?_, ⟨fun i bx hb hm => ?_, fun i g hm => ?_, fun i j g p1 p2 => ?_⟩⟩, ?_⟩
  · intro i L hL
    rcases Nat.lt_or_ge i H0.length with hi | hi
    · exact ⟨goneBox, behind_lt _ hi, .inr rfl⟩
    · rw [hge hi] at hL
      obtain ⟨b, k1, k2⟩ := h1.dom _ L hL
      refine ⟨renBox (· + H0.length) b, ?_, by rw [(renBox_eqs _ b).1, (renBox_eqs _ b).2.1]; exact k2⟩
      have := behind_ge (m := H0.length) H1 (i - H0.length)
      rw [Nat.sub_add_cancel hi] at this
      rw [this, k1]
      rfl
  · intro i bx hb hl
    rcases behind_get hb with ⟨_, rfl⟩ | ⟨b0, hi, k1, rfl⟩
    · cases hl
    · rw [(renBox_eqs _ b0).1] at hl
      obtain ⟨L, hL, hok⟩ := h1.boxes _ b0 k1 hl
      refine ⟨L, by rw [hge hi]; exact hL, hok.ren _ (fun b c hh => ⟨hh, rfl⟩) (fun _ r _ => ?_) (fun _ _ => rfl)⟩
      rw [hge (Nat.le_add_left _ _), hgm (Nat.le_add_left _ _), Nat.add_sub_cancel]
      exact ⟨rfl, rfl⟩
  · intro i j b1 b2 L1 L2 g p1 p2 l1 l2 s1 s2 g1 g2
    rcases behind_get p1 with ⟨_, rfl⟩ | ⟨c1, i1, k1, rfl⟩
    · cases l1
    · rcases behind_get p2 with ⟨_, rfl⟩ | ⟨c2, i2, k2, rfl⟩
      · cases l2
      · rw [hge i1] at s1
        rw [hge i2] at s2
        rw [(renBox_eqs _ _).1] at l1 l2
        have := h1.apart _ _ c1 c2 L1 L2 g k1 k2 l1 l2 s1 s2 g1 g2
        omega
  · intro b c hc i bx L hb hl hL hg
    rcases behind_get hb with ⟨_, rfl⟩ | ⟨b0, hi, k1, rfl⟩
    · cases hl
    · rw [hge hi] at hL
      rw [(renBox_eqs _ b0).1] at hl
      rw [(renBox_eqs _ b0).2.2.2.2.2.1]
      exact h1.floor b c hc _ b0 L k1 hl hL hg
  · intro i bx hb hl
    rcases behind_get hb with ⟨_, rfl⟩ | ⟨b0, hi, k1, rfl⟩
    · cases hl
    · obtain ⟨e1, _, _, _, _, e6, e7⟩ := renBox_eqs (· + H0.length) b0
      rw [e6, e7]
      rw [e1] at hl
      exact h1.low _ b0 k1 hl
  · obtain ⟨k1, k2, k3, k4⟩ := h1.kept b hb
    refine ⟨k1, k2, fun i L hL => ?_, k4⟩
    rcases Nat.lt_or_ge i H0.length with hi | hi
    · simp only [Sg.behind, if_pos hi] at hL
      exact (h.kept b hb).2.2.1 i L hL
    · rw [hge hi] at hL
      exact k3 _ L hL
  · rcases behind_get hb with ⟨_, rfl⟩ | ⟨b0, hi, k1, rfl⟩
    · simp [mapB, goneBox] at hm
    · obtain ⟨e1, e2, e3, _⟩ := renBox_eqs (· + H0.length) b0
      have hmb : mapB b0 = true := by simpa only [mapB, e1, e2, e3] using hm
      obtain ⟨g, es, c, us, q1, q2, q3, q4, q5⟩ := h1.maps.ok _ b0 k1 hmb
      have hx : (renBox (· + H0.length) b0).xs = b0.xs := by unfold renBox; rw [if_pos (mapB_dead hmb).2]
      exact ⟨g, es, c, us, by rw [hgm hi]; exact q1, q2, by rw [hx]; exact q3.bare (fun b c hh => ⟨hh, rfl⟩) (fzV_noRefs q5), q4, by rw [hx]; exact q5⟩
  · obtain ⟨hi, hm⟩ := hgl hm
    obtain ⟨d1, d2, d3, b, d4, d5⟩ := h1.maps.dom _ g hm
    obtain ⟨e1, e2, e3, _⟩ := renBox_eqs (· + H0.length) b
    refine ⟨d1, d2, d3, renBox (· + H0.length) b, ?_, by simpa only [mapB, e1, e2, e3] using d5⟩
    have := behind_ge (m := H0.length) H1 (i - H0.length)
    rw [Nat.sub_add_cancel hi] at this
    rw [this, d4]
    rfl
  · obtain ⟨hi, p1⟩ := hgl p1
    obtain ⟨hj, p2⟩ := hgl p2
    have := h1.maps.apart _ _ g p1 p2
    omega
  · refine ⟨fun i L hL => ⟨L, ?_, rfl, .inl rfl⟩, hE.fz, fun id g hg => by rw [hm0] at hg; cases hg⟩
    simp only [Sg.behind, if_pos (h.dom_lt hL)]
    exact hL

theorem heap_of_moved {P : Program} {E : Env} (hE : EnvOK E) (hP : E.P = P) (hF : EnvFns P E) {n : Nat} {f : FuncId} {fn : Func} (hfn : E.func f = some fn) {c : Code} (hb : fn.body = some c) {as : List V} {H0 : Heap} {r : V} {H1 : Heap} {fa : List (List Fk)} {fb : List Bf}
    (h : RunsV (callD E n) E f fn 0 (Zh E fn fa fb 0) (.run c) [] ⟨as ++ List.replicate (fn.ntmps - as.length) vundef, H0⟩ (r, H1)) : HeapFn P E f as H0 (renF (· + H0.length) r) (behind H0.length H1) := by
  obtain ⟨hf1, hf2⟩ := hE.func f fn hfn
  rw [hP] at hf1
  intro B w0 σ w vs hnm hI hg hr
  have hslots : Reps σ w (as ++ List.replicate (fn.ntmps - as.length) vundef) (vs.toArray ++ Array.replicate (fn.ntmps - vs.toArray.size) undef).toList := by
    simp only [Array.toList_append, Array.toList_replicate, List.size_toArray]
    rw [← hr.length]
    exact hr.append (Reps.replicate _ (.no .nil))
  have hrel : Rel E B w0 σ ⟨as ++ List.replicate (fn.ntmps - as.length) vundef, H0⟩ { tmps := vs.toArray ++ Array.replicate (fn.ntmps - vs.toArray.size) undef, defers := [] } w := ⟨hI, hg, hslots, rfl⟩
  have hwp := runs_ok hE hP (callD_ok hE hP hF n B w0) (callD_calls n) (F := FinM P fn B w0 σ w) (σ0 := σ) (ws := w)
    (fun st r σ' a w' hz hr hx => finM_ok hE hP hr hx hz) h (hE.calm f fn c hfn hb) rfl _ _ _ hrel (Ext.refl _ _).k
  have fin : ∀ {r : V × Heap} {u : Value} {σ' : Sg} {w' : World}, Inv B w0 σ' r.2 w' → ExtK 0 σ w σ' w' → Reps σ' w' [r.1] [u] →
      ∃ σ'', Inv B w0 σ'' (behind H0.length r.2) w' ∧ Ext σ w σ'' w' ∧ Reps σ'' w' [renF (· + H0.length) r.1] [u] := by
    intro r u σ' w' h2 h3 h4
    obtain ⟨i1, i2⟩ := gone_ok hI h2 h3 hnm
    refine ⟨_, i1, i2, renF_reps h4 (fun b c hh => ⟨hh, rfl⟩) (fun id _ => ?_)⟩
    simp only [Sg.behind, if_neg (Nat.not_lt.2 (Nat.le_add_left _ _)), Nat.add_sub_cancel, and_self]
  refine calls_of_wp hf1 hb ?_
  intro fr k cs
  obtain ⟨e, a', w', hq, harr⟩ := hwp fr k cs
  refine ⟨e, a', w', ?_, harr⟩
  cases e with
  | normal =>
    obtain ⟨h0, u, σ', h1, h2, h3, h4⟩ := hq
    obtain ⟨σ'', j1, j2, j3⟩ := fin h2 h3 h4
    exact ⟨h0, u, h1, u, σ'', rfl, j1, j2, j3⟩
  | ret =>
    obtain ⟨h0, u, σ', h1, h2, h3, h4⟩ := hq
    obtain ⟨σ'', j1, j2, j3⟩ := fin h2 h3 h4
    exact ⟨h0, u, h1, u, σ'', rfl, j1, j2, j3⟩
  | exit id => exact hq.elim
  | goto l => exact hq.elim
  | panic c => exact hq.elim
  | outgrown => exact hq.elim

section
variable {U : Univ}

/-- What such a call leaves, in its caller's names: its own rows behind those that it was given. -/
def goneS (m : Nat) (r : SV U.Ty × SHeap U) : SV U.Ty × SHeap U := (renFS (· + m) r.1, List.replicate m .gone ++ r.2.map (renSBox (· + m)))

theorem goneS_ok (m : Nat) (r : SV U.Ty × SHeap U) : toV U (goneS m r).1 = renF (· + m) (toV U r.1) ∧ toH U (goneS m r).2 = behind m (toH U r.2) := by
  refine ⟨renF_toV _ _, ?_⟩
  simp only [goneS, toH, behind, List.map_append, List.map_replicate, List.map_map, toBox]
  congr 1
  exact List.map_congr_left fun b _ => renSBox_toBox _ b

theorem hfn_flowM {P : Program} {gl : Nat → Option (List V)} {f : FuncId} {mods : FuncId → Option (Mod U)} {hmods : FuncId → List FuncId → Option (HMod U)} {mk : Makers P} {E0 : Env} (hE0 : E0.glob = gl) (hU : UnivOK U (EV P gl f mods hmods mk)) (hmix : P.follows .mixedOrders = true) {fn : Func} {c : Code}
    (hok : ∀ g m, mods g = some m → FnOK P E0 g m) (hhok : ∀ g k m, hmods g k = some m → HFnOK P E0 g m) (hfn : P.funcs[f]? = some fn) (hname : (fn.name == "runtime.NumGoroutine") = false) (hb : fn.body = some c) (hcalm : calmC (EV P gl f mods hmods mk) f c = true) (m : HMod U)
    {fa : List (List Fk)} {fb : List Bf} {k : Nat} (hk : ∀ x : m.sin.X U, (m.sin.enc x).2.length = k) {Pt : Type} {A : Nat → Option Lay} {N : Nat} (sh : Shape) (out : U.Ty m.ky → SV U.Ty × SHeap U) (hout : ∀ y, m.out y = goneS k (out y)) (T : Pt → Tr U (U.Ty m.ky ⊕ Pt)) (sp : Pt → Spot U)
    (h : ∀ p, runL (EV P gl f mods hmods mk) (mdlOf mods hmods mk.tab) A f fn 0 (doneX (EV P gl f mods hmods mk) fn fa fb 0 sh m.one) N (.run (sp p).c) (sp p).K (sp p).st (sp p).sk = (T p).map (leafOf out sp))
    (b0 : m.sin.X U → Pt) (hm : ∀ x : m.sin.X U, m.fn x = flow T (b0 x)) (hsp : ∀ x : m.sin.X U, sp (b0 x) = ⟨c, [], entryH (m.sin.enc x) fn.ntmps, false⟩) : HFnOK P E0 f m := by
  have hE := EV_ok (gl := gl) (mods := mods) (hmods := hmods) hmix hfn hname hb hcalm
  have hF : EnvFns P (EV P gl f mods hmods mk) := envFns_of hU rfl rfl (fun _ => rfl) (fun g m hm => (hok g m hm).glob (by rw [hE0]; rfl)) (fun g k m hm => (hhok g k m hm).glob (by rw [hE0]; rfl)) mk rfl
  have hfn' : (EV P gl f mods hmods mk).func f = some fn := by simp only [EV, EV0, if_true]; exact hfn
  refine ⟨⟨fn, hfn, by simp [hb], hname⟩, fun x y hx B w0 σ w vs hnm hi hg hr => ?_⟩
  rw [hm] at hx
  have h1 := flow_runsL hU (EV_mdl hU) (fun st s hs => doneX_ok hU hs) T sp h hx
  rw [hsp, entryH_toV] at h1
  have h2 := heap_of_moved hE rfl hF hfn' hb h1 B w0 σ w vs hnm hi (fun g r hh => hg g r (by rw [hE0]; exact hh)) hr
  obtain ⟨e1, e2⟩ := goneS_ok k (out y)
  rw [toH_length, hk x, ← e1, ← e2, ← hout] at h2
  exact h2

end

end Go.Proofs.YtpikcdlhgiooaaaGreat.Le

