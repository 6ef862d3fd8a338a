/-
  An evaluator for the model's code over pure values: how its values and boxes stand to the model's world.
-/
import Derived.Test.YtcjccaonfgcakaaLe1
import Derived.Below
import Derived.Deep.MidRow
import Derived.Laws.MakeOwn
import Derived.Laws.OwnMore
namespace Go.Proofs.Ytcjccaonfgcakaa.Le
set_option linter.unusedVariables false
open Go.RowKit (Below)

/-- Where a box lies: the slice value that covers it, how many elements, cells an element. -/
structure Loc where
  v : Value
  tot : Nat
  esz : Nat

structure Sg where
  box : Nat → Option Loc
  fz : Nat → Nat → Prop

def flat (us : List Value) : List Value := us.flatMap fun u => u.cells.toList

/-- The cells of the elements us lie from offset o of block b on, and are frozen. -/
def Lies (σ : Sg) (w : World) (b o : Nat) (us : List Value) : Prop :=
  ∀ j u, (flat us)[j]? = some u → σ.fz b (o + j) ∧ w.cell? ⟨b, o + j, none⟩ = some u

def isSub (L : Value) (esz off len : Nat) (v : Value) : Prop :=
  ∃ a n c k, L = .slice a n c ∧ v = .slice (a.map (·.add (k * esz))) len (c - off) ∧ off ≤ c ∧ k ≤ off ∧ (off < c → k = off)

inductive Reps (σ : Sg) (w : World) : List V → List Value → Prop where
  | nil : Reps σ w [] []
  | und (u : Value) {xs vs} : Reps σ w xs vs → Reps σ w (.und :: xs) (u :: vs)
  | no {xs vs} : Reps σ w xs vs → Reps σ w (.no :: xs) (undef :: vs)
  | lit {v : Value} {xs vs} : leaf v = true → Reps σ w xs vs → Reps σ w (.lit v :: xs) (v :: vs)
  | agg {cs ws xs vs} : Reps σ w cs ws → (∀ u ∈ ws, u.oneCell' = true) → Reps σ w xs vs → Reps σ w (.agg cs :: xs) (.agg ws.toArray :: vs)
  | tup {cs ws xs vs} : Reps σ w cs ws → Reps σ w xs vs → Reps σ w (.tup cs :: xs) (.tuple ws.toArray :: vs)
  | slnil {b e xs vs} : Reps σ w xs vs → Reps σ w (.sl b e [] :: xs) (.slice none 0 0 :: vs)
  | slemp {e xs vs} (a : Addr) : Reps σ w xs vs → Reps σ w (.sl false e [] :: xs) (.slice (some a) 0 0 :: vs)
  | sltemp {e xs vs} (a : Addr) : Reps σ w xs vs → Reps σ w (.slt false e [] :: xs) (.slice (some a) 0 0 :: vs)
  | sltnil {b e xs vs} : Reps σ w xs vs → Reps σ w (.slt b e [] :: xs) (.slice none 0 0 :: vs)
  | sl {es us xs vs} (b o c e : Nat) : Reps σ w es us → (∀ x ∈ es, fzV x = true) → (∀ u ∈ us, u.cells.size = e) → (∀ u ∈ flat us, u.oneCell' = true) → es.length ≤ c → c ≤ maxLen → Lies σ w b o us → Reps σ w xs vs →
      Reps σ w (.sl false e es :: xs) (.slice (some ⟨b, o, none⟩) es.length c :: vs)
  | slt {es us xs vs} (b o e : Nat) : Reps σ w es us → (∀ x ∈ es, fzV x = true) → (∀ u ∈ us, u.cells.size = e) → (∀ u ∈ flat us, u.oneCell' = true) → es.length ≤ maxLen → Lies σ w b o us → Reps σ w xs vs →
      Reps σ w (.slt false e es :: xs) (.slice (some ⟨b, o, none⟩) es.length es.length :: vs)
  | lsl {id off len tot L v xs vs} : σ.box id = some L → tot ≤ L.tot → (L.tot = tot → off + len ≤ tot ∧ isSub L.v L.esz off len v) → (∃ a n c, v = .slice a n c) → Reps σ w xs vs →
      Reps σ w (.lsl id off len tot :: xs) (v :: vs)
  | ptr {id i off tot L v xs vs} (g : Nat) : σ.box id = some L → tot ≤ L.tot → (L.tot = tot → ∃ n c, L.v = .slice (some ⟨g, 0, none⟩) n c) → v = .pointer (some ⟨g, i * L.esz + off, none⟩) → Reps σ w xs vs →
      Reps σ w (.ptr id i off tot :: xs) (v :: vs)
  | ept {es us xs vs} (b o e i off : Nat) : Reps σ w es us → (∀ x ∈ es, fzV x = true) → (∀ u ∈ us, u.cells.size = e) → (∀ u ∈ flat us, u.oneCell' = true) → Lies σ w b o us → Reps σ w xs vs →
      Reps σ w (.ept e es i off :: xs) (.pointer (some ⟨b, o + i * e + off, none⟩) :: vs)
  | fn {f first caps us ws xs vs} : Reps σ w first us → Reps σ w caps ws → Reps σ w xs vs → Reps σ w (.fn f first caps :: xs) (.func (.func f) us.toArray ws.toArray :: vs)
  | ifc {t x u xs vs} : Reps σ w [x] [u] → Reps σ w xs vs → Reps σ w (.ifc t x :: xs) (.iface t u :: vs)

/-- What may turn from one state to the next. -/
structure Ext (σ : Sg) (w : World) (σ' : Sg) (w' : World) : Prop where
  box : ∀ id L, σ.box id = some L → ∃ L', σ'.box id = some L' ∧ L'.esz = L.esz ∧ (L' = L ∨ L.tot < L'.tot)
  fz : ∀ b c, σ.fz b c → σ'.fz b c ∧ w'.cell? ⟨b, c, none⟩ = w.cell? ⟨b, c, none⟩

theorem Ext.refl (σ : Sg) (w : World) : Ext σ w σ w := ⟨fun id L h => ⟨L, h, rfl, .inl rfl⟩, fun b c h => ⟨h, rfl⟩⟩

theorem Ext.trans {σ w σ' w' σ'' w''} (h : Ext σ w σ' w') (k : Ext σ' w' σ'' w'') : Ext σ w σ'' w'' := by
  refine ⟨fun id L hL => ?_, fun b c hc => ?_⟩
  · obtain ⟨L', h1, h2, h3⟩ := h.box id L hL
    obtain ⟨L'', k1, k2, k3⟩ := k.box id L' h1
    refine ⟨L'', k1, k2.trans h2, ?_⟩
    rcases h3 with rfl | h3
    · exact k3
    · rcases k3 with rfl | k3
      · exact .inr h3
      · exact .inr (Nat.lt_trans h3 k3)
  · obtain ⟨a1, a2⟩ := h.fz b c hc
    obtain ⟨b1, b2⟩ := k.fz b c a1
    exact ⟨b1, b2.trans a2⟩

theorem Lies.ext {σ w σ' w' b o us} (h : Lies σ w b o us) (e : Ext σ w σ' w') : Lies σ' w' b o us := fun j u hu => by
  obtain ⟨h1, h2⟩ := h j u hu
  obtain ⟨e1, e2⟩ := e.fz _ _ h1
  exact ⟨e1, e2.trans h2⟩

theorem Reps.ext {σ w σ' w' xs vs} (h : Reps σ w xs vs) (e : Ext σ w σ' w') : Reps σ' w' xs vs := by
  induction h with
  | nil => exact .nil
  | und u _ ih => exact .und u ih
  | no _ ih => exact .no ih
  | lit hl _ ih => exact .lit hl ih
  | agg _ ho _ ih1 ih2 => exact .agg ih1 ho ih2
  | tup _ _ ih1 ih2 => exact .tup ih1 ih2
  | slnil _ ih => exact .slnil ih
  | sltnil _ ih => exact .sltnil ih
  | slemp a _ ih => exact .slemp a ih
  | sltemp a _ ih => exact .sltemp a ih
  | sl b o c e' _ h0 h1 h2 h3 h4 h5 _ ih1 ih2 => exact .sl b o c e' ih1 h0 h1 h2 h3 h4 (h5.ext e) ih2
  | slt b o e' _ h0 h1 h2 h3 h4 _ ih1 ih2 => exact .slt b o e' ih1 h0 h1 h2 h3 (h4.ext e) ih2
  | lsl h1 h2 h3 h4 _ ih =>
    obtain ⟨L', k1, k2, k3⟩ := e.box _ _ h1
    rcases k3 with rfl | k3
    · exact .lsl k1 h2 h3 h4 ih
    · exact .lsl k1 (by omega) (fun hh => by omega) h4 ih
  | ptr g h1 h2 h3 h4 _ ih =>
    obtain ⟨L', k1, k2, k3⟩ := e.box _ _ h1
    rcases k3 with rfl | k3
    · exact .ptr g k1 h2 h3 h4 ih
    · exact .ptr g k1 (by omega) (fun hh => by omega) (by rw [k2]; exact h4) ih
  | ept b o e' i off _ h0 h1 h2 h3 _ ih1 ih2 => exact .ept b o e' i off ih1 h0 h1 h2 (h3.ext e) ih2
  | fn _ _ _ ih1 ih2 ih3 => exact .fn ih1 ih2 ih3
  | ifc _ _ ih1 ih2 => exact .ifc ih1 ih2

theorem Reps.length {σ w xs vs} (h : Reps σ w xs vs) : xs.length = vs.length := by
  induction h <;> simp_all

theorem noRefs_iff (xs : List V) : noRefs xs = true ↔ ∀ x ∈ xs, noRef x = true := by
  induction xs with
  | nil => simp [noRefs]
  | cons x xs ih => simp [noRefs, ih]

theorem fzV_ok {x : V} (h : fzV x = true) : okV x = true := by simp [fzV] at h; exact h.1
theorem fzV_noRef {x : V} (h : fzV x = true) : noRef x = true := by simp [fzV] at h; exact h.2
theorem fzV_oks {xs : List V} (h : ∀ x ∈ xs, fzV x = true) : ∀ x ∈ xs, okV x = true := fun x hx => fzV_ok (h x hx)
theorem fzV_noRefs {xs : List V} (h : ∀ x ∈ xs, fzV x = true) : noRefs xs = true := (noRefs_iff xs).2 fun x hx => fzV_noRef (h x hx)

theorem noRef_cells {x : V} (h : noRef x = true) : noRefs x.cells = true := by
  cases x <;> simp_all [V.cells, noRef, noRefs]

/-- One element at a time. -/
theorem Reps.cons_iff {σ w x xs v vs} : Reps σ w (x :: xs) (v :: vs) ↔ Reps σ w [x] [v] ∧ Reps σ w xs vs := by
  constructor
  · intro h
    cases h with
    | und _ h => exact ⟨.und _ .nil, h⟩
    | no h => exact ⟨.no .nil, h⟩
    | lit hl h => exact ⟨.lit hl .nil, h⟩
    | agg h1 ho h => exact ⟨.agg h1 ho .nil, h⟩
    | tup h1 h => exact ⟨.tup h1 .nil, h⟩
    | slnil h => exact ⟨.slnil .nil, h⟩
    | sltnil h => exact ⟨.sltnil .nil, h⟩
    | slemp a h => exact ⟨.slemp a .nil, h⟩
    | sltemp a h => exact ⟨.sltemp a .nil, h⟩
    | sl b o c e h0 h1 h2 h3 h4 h5 h6 h => exact ⟨.sl b o c e h0 h1 h2 h3 h4 h5 h6 .nil, h⟩
    | slt b o e h0 h1 h2 h3 h4 h5 h => exact ⟨.slt b o e h0 h1 h2 h3 h4 h5 .nil, h⟩
    | lsl h1 h2 h3 h4 h => exact ⟨.lsl h1 h2 h3 h4 .nil, h⟩
    | ptr g h1 h2 h3 h4 h => exact ⟨.ptr g h1 h2 h3 h4 .nil, h⟩
    | ept b o e i off h0 h1 h2 h3 h4 h => exact ⟨.ept b o e i off h0 h1 h2 h3 h4 .nil, h⟩
    | fn h1 h2 h => exact ⟨.fn h1 h2 .nil, h⟩
    | ifc h1 h => exact ⟨.ifc h1 .nil, h⟩
  · rintro ⟨h, k⟩
    cases h with
    | und _ h => exact .und _ k
    | no h => exact .no k
    | lit hl h => exact .lit hl k
    | agg h1 ho h => exact .agg h1 ho k
    | tup h1 h => exact .tup h1 k
    | slnil h => exact .slnil k
    | sltnil h => exact .sltnil k
    | slemp a h => exact .slemp a k
    | sltemp a h => exact .sltemp a k
    | sl b o c e h0 h1 h2 h3 h4 h5 h6 h => exact .sl b o c e h0 h1 h2 h3 h4 h5 h6 k
    | slt b o e h0 h1 h2 h3 h4 h5 h => exact .slt b o e h0 h1 h2 h3 h4 h5 k
    | lsl h1 h2 h3 h4 h => exact .lsl h1 h2 h3 h4 k
    | ptr g h1 h2 h3 h4 h => exact .ptr g h1 h2 h3 h4 k
    | ept b o e i off h0 h1 h2 h3 h4 h => exact .ept b o e i off h0 h1 h2 h3 h4 k
    | fn h1 h2 h => exact .fn h1 h2 k
    | ifc h1 h => exact .ifc h1 k

theorem Reps.nil_left {σ w vs} (h : Reps σ w [] vs) : vs = [] := by cases h; rfl
theorem Reps.nil_right {σ w xs} (h : Reps σ w xs []) : xs = [] := by cases h; rfl
theorem Reps.cons_left {σ w x xs vs} (h : Reps σ w (x :: xs) vs) : ∃ v vs', vs = v :: vs' ∧ Reps σ w [x] [v] ∧ Reps σ w xs vs' := by
  cases vs with
  | nil => exact absurd h.length (by simp)
  | cons v vs' => exact ⟨v, vs', rfl, (Reps.cons_iff.1 h).1, (Reps.cons_iff.1 h).2⟩

theorem Reps.append {σ w xs vs ys us} (h : Reps σ w xs vs) (k : Reps σ w ys us) : Reps σ w (xs ++ ys) (vs ++ us) := by
  induction xs generalizing vs with
  | nil => cases h.nil_left; exact k
  | cons x xs ih =>
    obtain ⟨v, vs', rfl, h1, h2⟩ := h.cons_left
    exact Reps.cons_iff.2 ⟨h1, ih h2⟩

theorem Reps.get {σ w xs vs} (h : Reps σ w xs vs) {i : Nat} {x : V} (hx : xs[i]? = some x) : ∃ v, vs[i]? = some v ∧ Reps σ w [x] [v] := by
  induction xs generalizing vs i with
  | nil => simp at hx
  | cons y ys ih =>
    obtain ⟨v, vs', rfl, h1, h2⟩ := h.cons_left
    cases i with
    | zero => simp at hx; subst hx; exact ⟨v, rfl, h1⟩
    | succ i => simp at hx ⊢; exact ih h2 hx

theorem Reps.take {σ w xs vs} (h : Reps σ w xs vs) (n : Nat) : Reps σ w (xs.take n) (vs.take n) := by
  induction xs generalizing vs n with
  | nil => cases h.nil_left; simp; exact .nil
  | cons y ys ih =>
    obtain ⟨v, vs', rfl, h1, h2⟩ := h.cons_left
    cases n with
    | zero => exact .nil
    | succ n => exact Reps.cons_iff.2 ⟨h1, ih h2 n⟩

theorem Reps.drop {σ w xs vs} (h : Reps σ w xs vs) (n : Nat) : Reps σ w (xs.drop n) (vs.drop n) := by
  induction xs generalizing vs n with
  | nil => cases h.nil_left; simp; exact .nil
  | cons y ys ih =>
    obtain ⟨v, vs', rfl, h1, h2⟩ := h.cons_left
    cases n with
    | zero => exact h
    | succ n => exact ih h2 n

theorem Reps.set {σ w xs vs x v} (h : Reps σ w xs vs) (i : Nat) (k : Reps σ w [x] [v]) : Reps σ w (xs.set i x) (vs.set i v) := by
  induction xs generalizing vs i with
  | nil => cases h.nil_left; simp; exact .nil
  | cons y ys ih =>
    obtain ⟨u, vs', rfl, h1, h2⟩ := h.cons_left
    cases i with
    | zero => exact Reps.cons_iff.2 ⟨k, h2⟩
    | succ i => exact Reps.cons_iff.2 ⟨h1, ih h2 i⟩

theorem Reps.replicate {σ w x v} (n : Nat) (k : Reps σ w [x] [v]) : Reps σ w (List.replicate n x) (List.replicate n v) := by
  induction n with
  | zero => exact .nil
  | succ n ih => exact Reps.cons_iff.2 ⟨k, ih⟩

end Go.Proofs.Ytcjccaonfgcakaa.Le
