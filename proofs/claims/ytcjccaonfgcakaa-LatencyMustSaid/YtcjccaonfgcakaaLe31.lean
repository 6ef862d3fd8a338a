/-
  How values of Lean's types lie in cells: codes for scalars, rows of fields, lists.
-/
import Derived.Test.YtcjccaonfgcakaaLe30
namespace Go.Proofs.Ytcjccaonfgcakaa.Le
set_option linter.unusedVariables false

structure Codec (Ty : Nat → Type) (T : Type) where
  encV : T → List V
  encS : T → List (SV Ty)
  dec : List (SV Ty) → Option (T × List (SV Ty))

section
variable {Ty : Nat → Type}

def Codec.int (k : IntKind) : Codec Ty Int where
  encV := fun a => [.lit (.int k a)]
  encS := fun a => [.si k a]
  dec := fun cs => match cs with
    | .si j a :: r => if j = k then some (a, r) else none
    | .lit (.int j a) :: r => if j = k then some (a, r) else none
    | _ => none
def Codec.bool : Codec Ty Bool where
  encV := fun b => [.lit (.bool b)]
  encS := fun b => [.sb b]
  dec := fun cs => match cs with
    | .sb b :: r => some (b, r)
    | .lit (.bool b) :: r => some (b, r)
    | _ => none
def Codec.str : Codec Ty ByteArray where
  encV := fun b => [.lit (.string b)]
  encS := fun b => [.ss b]
  dec := fun cs => match cs with
    | .ss b :: r => some (b, r)
    | .lit (.string b) :: r => some (b, r)
    | _ => none
def Codec.list (t n : Nat) (e : Ty t → V) : Codec Ty (List (Ty t)) where
  encV := fun xs => [.sl false n (xs.map e)]
  encS := fun xs => [.sl t xs]
  dec := fun cs => match cs with
    | .sl t' xs :: r => if h : t' = t then some (h ▸ xs, r) else none
    | .nil _ :: r => some ([], r)
    | _ => none
def Codec.unit : Codec Ty Unit where
  encV := fun _ => []
  encS := fun _ => []
  dec := fun cs => some ((), cs)
def Codec.pair {A B : Type} (a : Codec Ty A) (b : Codec Ty B) : Codec Ty (A × B) where
  encV := fun x => a.encV x.1 ++ b.encV x.2
  encS := fun x => a.encS x.1 ++ b.encS x.2
  dec := fun cs => match a.dec cs with
    | some (x, r) => match b.dec r with | some (y, r') => some ((x, y), r') | none => none
    | none => none
def Codec.iso {A B : Type} (f : A → B) (g : B → A) (b : Codec Ty B) : Codec Ty A where
  encV := fun x => b.encV (f x)
  encS := fun x => b.encS (f x)
  dec := fun cs => match b.dec cs with | some (y, r) => some (g y, r) | none => none

def Codec.agg {T : Type} (c : Codec Ty T) (v : SV Ty) : Option T := match v with
  | .agg cs => match c.dec cs with | some (a, []) => some a | _ => none
  | _ => none
def Codec.one {T : Type} (c : Codec Ty T) (v : SV Ty) : Option T := match c.dec [v] with | some (a, []) => some a | _ => none
def Codec.oneV {T : Type} (c : Codec Ty T) (a : T) : V := (c.encV a).headD .no
def Codec.oneS {T : Type} (c : Codec Ty T) (a : T) : SV Ty := (c.encS a).headD .no
end

structure CodecOK (U : Univ) {T : Type} (c : Codec U.Ty T) (rs : List Nat) : Prop where
  enc : ∀ a, toVs U (c.encS a) = c.encV a
  len : ∀ a, (c.encV a).length = rs.length
  dec : ∀ cs a rest, c.dec cs = some (a, rest) → ∃ pre, cs = pre ++ rest ∧ pre.length = rs.length ∧ retypeL rs (toVs U pre) = c.encV a
  nr : ∀ a, noRefs (c.encV a) = true
  inj : ∀ a b, c.encV a = c.encV b → a = b

section
variable {U : Univ}

theorem CodecOK.int (k : IntKind) : CodecOK U (Codec.int k : Codec U.Ty Int) [0] := by
  refine ⟨fun a => rfl, fun a => rfl, ?_, fun a => rfl, fun a b h => by simpa [Codec.int] using h⟩
  intro cs a rest h
  simp only [Codec.int] at h
  split at h
  · rename_i j x r
    split at h
    · rename_i hj
      simp only [Option.some.injEq, Prod.mk.injEq] at h
      obtain ⟨rfl, rfl⟩ := h
      subst hj
      exact ⟨[_], rfl, rfl, rfl⟩
    · cases h
  · rename_i j x r
    split at h
    · rename_i hj
      simp only [Option.some.injEq, Prod.mk.injEq] at h
      obtain ⟨rfl, rfl⟩ := h
      subst hj
      exact ⟨[_], rfl, rfl, rfl⟩
    · cases h
  · cases h

theorem CodecOK.bool : CodecOK U (Codec.bool : Codec U.Ty Bool) [0] := by
  refine ⟨fun a => rfl, fun a => rfl, ?_, fun a => rfl, fun a b h => by simpa [Codec.bool] using h⟩
  intro cs a rest h
  simp only [Codec.bool] at h
  split at h <;> cases h <;> exact ⟨[_], rfl, rfl, rfl⟩

theorem CodecOK.str : CodecOK U (Codec.str : Codec U.Ty ByteArray) [0] := by
  refine ⟨fun a => rfl, fun a => rfl, ?_, fun a => rfl, fun a b h => by simpa [Codec.str] using h⟩
  intro cs a rest h
  simp only [Codec.str] at h
  split at h <;> cases h <;> exact ⟨[_], rfl, rfl, rfl⟩

theorem map_inj {α β : Type} {f : α → β} (hf : ∀ a b, f a = f b → a = b) : ∀ {xs ys : List α}, xs.map f = ys.map f → xs = ys := by
  intro xs
  induction xs with
  | nil => intro ys h; cases ys with
    | nil => rfl
    | cons => simp at h
  | cons x xs ih => intro ys h; cases ys with
    | nil => simp at h
    | cons y ys =>
      simp only [List.map_cons, List.cons.injEq] at h
      rw [hf _ _ h.1, ih h.2]

theorem CodecOK.list {t n : Nat} {e : U.Ty t → V} (he : ∀ a, U.enc t a = e a) (hn : U.esz t = n) (hnr : ∀ a, noRef (e a) = true) (hinj : ∀ a b, e a = e b → a = b) : CodecOK U (Codec.list t n e : Codec U.Ty (List (U.Ty t))) [n] := by
  have hmap : ∀ xs : List (U.Ty t), xs.map (U.enc t) = xs.map e := fun xs => List.map_congr_left fun a _ => he a
  refine ⟨fun a => ?_, fun a => rfl, ?_, fun a => ?_, fun a b h => ?_⟩
  · simp [Codec.list, toVs, toV, hn, hmap]
  · intro cs a rest h
    simp only [Codec.list] at h
    split at h
    · rename_i t' xs r
      split at h
      · rename_i ht
        subst ht
        simp only [Option.some.injEq, Prod.mk.injEq] at h
        obtain ⟨rfl, rfl⟩ := h
        exact ⟨[_], rfl, rfl, by simp [toVs, toV, retypeL, retype1, Codec.list, hn, hmap]⟩
      · cases h
    · cases h
      exact ⟨[_], rfl, rfl, by simp [toVs, toV, retypeL, retype1, Codec.list]⟩
    · cases h
  · simp only [Codec.list, noRefs, noRef, Bool.and_true]
    rw [noRefs_iff]
    intro x hx
    obtain ⟨y, _, rfl⟩ := List.mem_map.1 hx
    exact hnr y
  · simp only [Codec.list, List.cons.injEq, V.sl.injEq, true_and, and_true] at h
    exact map_inj hinj h

theorem CodecOK.unit : CodecOK U (Codec.unit : Codec U.Ty Unit) [] :=
  ⟨fun a => rfl, fun a => rfl, fun cs a rest h => by cases h; exact ⟨[], rfl, rfl, rfl⟩, fun a => rfl, fun a b _ => rfl⟩

theorem retypeL_append : ∀ (r1 r2 : List Nat) (x y : List V), x.length = r1.length → retypeL (r1 ++ r2) (x ++ y) = retypeL r1 x ++ retypeL r2 y := by
  intro r1
  induction r1 with
  | nil => intro r2 x y h; cases x with
    | nil => simp [retypeL]
    | cons => simp at h
  | cons r r1 ih => intro r2 x y h; cases x with
    | nil => simp at h
    | cons v x => simp [retypeL, ih r2 x y (by simpa using h)]

theorem noRefs_append (x y : List V) : noRefs (x ++ y) = (noRefs x && noRefs y) := by
  induction x with
  | nil => simp [noRefs]
  | cons a x ih => simp [noRefs, ih, Bool.and_assoc]

theorem toVs_append (x y : List (SV U.Ty)) : toVs U (x ++ y) = toVs U x ++ toVs U y := by simp [toVs_map]

theorem CodecOK.pair {A B : Type} {a : Codec U.Ty A} {b : Codec U.Ty B} {r1 r2 : List Nat} (ha : CodecOK U a r1) (hb : CodecOK U b r2) : CodecOK U (Codec.pair a b) (r1 ++ r2) := by
  refine ⟨fun x => ?_, fun x => ?_, ?_, fun x => ?_, fun x y h => ?_⟩
  · simp only [Codec.pair, toVs_append, ha.enc, hb.enc]
  · simp only [Codec.pair, List.length_append, ha.len, hb.len]
  · intro cs x rest h
    simp only [Codec.pair] at h
    split at h
    · rename_i p r hp
      split at h
      · rename_i q r' hq
        cases h
        obtain ⟨p1, e1, l1, t1⟩ := ha.dec _ _ _ hp
        obtain ⟨p2, e2, l2, t2⟩ := hb.dec _ _ _ hq
        refine ⟨p1 ++ p2, by rw [e1, e2, List.append_assoc], by simp [l1, l2], ?_⟩
        rw [toVs_append, retypeL_append _ _ _ _ (by rw [length_toVs]; exact l1), t1, t2]
        rfl
      · cases h
    · cases h
  · simp only [Codec.pair, noRefs_append, ha.nr, hb.nr, Bool.and_self]
  · simp only [Codec.pair] at h
    obtain ⟨h1, h2⟩ := List.append_inj h (by rw [ha.len, ha.len])
    obtain ⟨x1, x2⟩ := x
    obtain ⟨y1, y2⟩ := y
    exact Prod.ext (ha.inj _ _ h1) (hb.inj _ _ h2)

theorem CodecOK.iso {A B : Type} {f : A → B} {g : B → A} {b : Codec U.Ty B} {r : List Nat} (hb : CodecOK U b r) (hfg : ∀ y, f (g y) = y) (hgf : ∀ x, g (f x) = x) : CodecOK U (Codec.iso f g b) r := by
  refine ⟨fun x => hb.enc _, fun x => hb.len _, ?_, fun x => hb.nr _, fun x y h => ?_⟩
  · intro cs x rest h
    simp only [Codec.iso] at h
    split at h
    · rename_i y r' hy
      cases h
      obtain ⟨p, e, l, t⟩ := hb.dec _ _ _ hy
      exact ⟨p, e, l, by simp only [Codec.iso, hfg]; exact t⟩
    · cases h
  · have := hb.inj _ _ h
    rw [← hgf x, this, hgf]

theorem CodecOK.agg {T : Type} {c : Codec U.Ty T} {r : List Nat} (h : CodecOK U c r) {v : SV U.Ty} {a : T} (hd : c.agg v = some a) : retype r (toV U v) = .agg (c.encV a) := by
  unfold Codec.agg at hd
  split at hd
  · split at hd
    · rename_i cs _ hcs
      cases hd
      obtain ⟨p, e, l, t⟩ := h.dec _ _ _ hcs
      simp only [List.append_nil] at e
      subst e
      simp only [toV, retype, t]
    · cases hd
  · cases hd

theorem CodecOK.one {T : Type} {c : Codec U.Ty T} {n : Nat} (h : CodecOK U c [n]) {v : SV U.Ty} {a : T} (hd : c.one v = some a) (hv : ∀ cs, toV U v ≠ .agg cs) : retype [n] (toV U v) = c.oneV a := by
  unfold Codec.one at hd
  split at hd
  · rename_i hcs
    cases hd
    obtain ⟨p, e, l, t⟩ := h.dec _ _ _ hcs
    simp only [List.append_nil] at e
    subst e
    simp only [toVs, retypeL] at t
    unfold Codec.oneV
    rw [← t]
    unfold retype
    split
    · rename_i cs hcs'; exact absurd hcs' (hv cs)
    · rfl
  · cases hd

theorem na_int {k : IntKind} {v : SV U.Ty} {a : Int} (h : (Codec.int k : Codec U.Ty Int).one v = some a) : ∀ cs, toV U v ≠ .agg cs := by
  rintro cs hc
  cases v <;> simp_all [toV, Codec.one, Codec.int]
theorem na_bool {v : SV U.Ty} {a : Bool} (h : (Codec.bool : Codec U.Ty Bool).one v = some a) : ∀ cs, toV U v ≠ .agg cs := by
  rintro cs hc
  cases v <;> simp_all [toV, Codec.one, Codec.bool]
theorem na_str {v : SV U.Ty} {a : ByteArray} (h : (Codec.str : Codec U.Ty ByteArray).one v = some a) : ∀ cs, toV U v ≠ .agg cs := by
  rintro cs hc
  cases v <;> simp_all [toV, Codec.one, Codec.str]
theorem na_list {t n : Nat} {e : U.Ty t → V} {v : SV U.Ty} {a : List (U.Ty t)} (h : (Codec.list t n e : Codec U.Ty (List (U.Ty t))).one v = some a) : ∀ cs, toV U v ≠ .agg cs := by
  rintro cs hc
  cases v <;> simp_all [toV, Codec.one, Codec.list]

theorem CodecOK.oneEnc {T : Type} {c : Codec U.Ty T} {n : Nat} (h : CodecOK U c [n]) (a : T) : toV U (c.oneS a) = c.oneV a := by
  unfold Codec.oneS Codec.oneV
  rw [← h.enc a]
  have hl := h.len a
  rw [← h.enc a, length_toVs] at hl
  cases hs : c.encS a with
  | nil => rw [hs] at hl; simp at hl
  | cons x xs => rfl

theorem CodecOK.oneInj {T : Type} {c : Codec U.Ty T} {n : Nat} (h : CodecOK U c [n]) {a b : T} (he : c.oneV a = c.oneV b) : a = b := by
  refine h.inj a b ?_
  have h1 := h.len a
  have h2 := h.len b
  unfold Codec.oneV at he
  cases ha : c.encV a with
  | nil => rw [ha] at h1; simp at h1
  | cons x xs =>
    cases hb : c.encV b with
    | nil => rw [hb] at h2; simp at h2
    | cons y ys =>
      rw [ha, hb] at he
      rw [ha] at h1
      rw [hb] at h2
      simp only [List.headD_cons] at he
      have hx : xs = [] := by simpa using h1
      have hy : ys = [] := by simpa using h2
      rw [he, hx, hy]

theorem CodecOK.oneNr {T : Type} {c : Codec U.Ty T} {n : Nat} (h : CodecOK U c [n]) (a : T) : noRef (c.oneV a) = true := by
  have := h.nr a
  unfold Codec.oneV
  cases ha : c.encV a with
  | nil => rfl
  | cons x xs => rw [ha] at this; simp [noRefs] at this; exact this.1

end

end Go.Proofs.Ytcjccaonfgcakaa.Le
