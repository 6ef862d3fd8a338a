/-
  Calls that are given boxes: another name for a box, cells made ready, a part of the boxes, and the way back.
-/
import Derived.Test.YtpikcdlhgiooaaaGreatL3
namespace Go.Proofs.YtpikcdlhgiooaaaGreat.Le
set_option linter.unusedVariables false
open Go.RowKit (Below)

def bare (fz : Nat → Nat → Prop) : Sg := ⟨fun _ => none, fz, fun _ => none⟩

theorem Lies.bare {σ σ' : Sg} {w w' : World} {b o : Nat} {us : List Value} (h : Lies σ w b o us) (hfz : ∀ b c, σ.fz b c → σ'.fz b c ∧ w'.cell? ⟨b, c, none⟩ = w.cell? ⟨b, c, none⟩) : Lies σ' w' b o us := fun j u hu => by
  obtain ⟨h1, h2⟩ := h j u hu
  simp_all

/-- What holds no references does not ask for the boxes. -/
theorem Reps.bare {σ σ' : Sg} {w w' : World} {xs : List V} {vs : List Value} (h : Reps σ w xs vs) (hfz : ∀ b c, σ.fz b c → σ'.fz b c ∧ w'.cell? ⟨b, c, none⟩ = w.cell? ⟨b, c, none⟩) :
    noRefs xs = true → Reps σ' w' xs vs := by
  induction h with
  | nil => intro _; exact .nil
  | und u _ ih => intro hn; simp [noRefs] at hn; exact .und u (ih hn.2)
  | no _ ih => intro hn; simp [noRefs] at hn; exact .no (ih hn.2)
  | lit hl _ ih => intro hn; simp [noRefs] at hn; exact .lit hl (ih hn.2)
  | agg _ ho _ ih1 ih2 => intro hn; simp [noRefs, noRef] at hn; exact .agg (ih1 hn.1) ho (ih2 hn.2)
  | tup _ _ ih1 ih2 => intro hn; simp [noRefs, noRef] at hn; exact .tup (ih1 hn.1) (ih2 hn.2)
  | slnil _ ih => intro hn; simp [noRefs] at hn; exact .slnil (ih hn.2)
  | sltnil _ ih => intro hn; simp [noRefs] at hn; exact .sltnil (ih hn.2)
  | slemp a _ ih => intro hn; simp [noRefs] at hn; exact .slemp a (ih hn.2)
  | sltemp a _ ih => intro hn; simp [noRefs] at hn; exact .sltemp a (ih hn.2)
  | sl b o c e' _ h0 h1 h2 h3 h4 h5 _ ih1 ih2 => intro hn; simp [noRefs, noRef] at hn; exact .sl b o c e' (ih1 hn.1) h0 h1 h2 h3 h4 (h5.bare hfz) (ih2 hn.2)
  | slt b o e' _ h0 h1 h2 h3 h4 _ ih1 ih2 => intro hn; simp [noRefs, noRef] at hn; exact .slt b o e' (ih1 hn.1) h0 h1 h2 h3 (h4.bare hfz) (ih2 hn.2)
  | lsl h1 h2 h3 h4 _ ih => intro hn; simp [noRefs, noRef] at hn
  | ptr g h1 h2 h3 h4 _ ih => intro hn; simp [noRefs, noRef] at hn
  | ept b o e' i off _ h0 h1 h2 h3 _ ih1 ih2 => intro hn; simp [noRefs, noRef] at hn; exact .ept b o e' i off (ih1 hn.1) h0 h1 h2 (h3.bare hfz) (ih2 hn.2)
  | fn _ _ _ ih1 ih2 ih3 => intro hn; simp [noRefs, noRef] at hn; exact .fn (ih1 hn.1.1) (ih2 hn.1.2) (ih3 hn.2)
  | ifc _ _ ih1 ih2 => intro hn; simp [noRefs, noRef] at hn; exact .ifc (ih1 (by simp [noRefs, hn.1])) (ih2 hn.2)
  | mref g h1 _ ih => intro hn; simp [noRefs, noRef] at hn

theorem GlobOK.bare {E : Env} {σ σ' : Sg} {w w' : World} (h : GlobOK E σ w) (hfz : ∀ b c, σ.fz b c → σ'.fz b c ∧ w'.cell? ⟨b, c, none⟩ = w.cell? ⟨b, c, none⟩) : GlobOK E σ' w' := by
  intro g r hg
  have hr := h g r hg
  generalize hv : Value.pointer (some ⟨g, 0, none⟩) = v at hr ⊢
  cases hr with
  | ept b o e' i off k0 k1 k2 k3 k4 _ => exact .ept b o _ _ _ (k0.bare hfz (fzV_noRefs k1)) k1 k2 k3 (k4.bare hfz) .nil


/-! ### other names -/

theorem refsFs_mem {xs : List V} {id : Nat} : id ∈ refsFs xs ↔ ∃ x ∈ xs, id ∈ refsF x := by
  induction xs with
  | nil => simp [refsFs]
  | cons x xs ih => simp [refsFs, ih]
theorem refsFs_append (xs ys : List V) : refsFs (xs ++ ys) = refsFs xs ++ refsFs ys := by
  induction xs with
  | nil => simp [refsFs]
  | cons x xs ih => simp [refsFs, ih]
theorem renFs_map (ρ : Nat → Nat) (xs : List V) : renFs ρ xs = xs.map (renF ρ) := by
  induction xs with
  | nil => rfl
  | cons x xs ih => simp [renFs, ih]
theorem renFs_length (ρ : Nat → Nat) (xs : List V) : (renFs ρ xs).length = xs.length := by rw [renFs_map]; simp

theorem renF_ok (ρ : Nat → Nat) (x : V) : okV (renF ρ x) = okV x := by cases x <;> simp [renF, okV]

theorem renFs_reps {σ σ' : Sg} {w w' : World} {ρ : Nat → Nat} {xs : List V} {vs : List Value} (h : Reps σ w xs vs) (hfz : ∀ b c, σ.fz b c → σ'.fz b c ∧ w'.cell? ⟨b, c, none⟩ = w.cell? ⟨b, c, none⟩) :
    (∀ id ∈ refsFs xs, σ'.box (ρ id) = σ.box id ∧ σ'.mp (ρ id) = σ.mp id) → Reps σ' w' (renFs ρ xs) vs := by
  induction h with
  | nil => intro _; exact .nil
  | und u _ ih => intro hn; exact .und u (ih fun id h => hn id (by simp [refsFs, h]))
  | no _ ih => intro hn; exact .no (ih fun id h => hn id (by simp [refsFs, h]))
  | lit hl _ ih => intro hn; exact .lit hl (ih fun id h => hn id (by simp [refsFs, h]))
  | agg _ ho _ ih1 ih2 => intro hn; exact .agg (ih1 fun id h => hn id (by simp [refsFs, refsF, h])) ho (ih2 fun id h => hn id (by simp [refsFs, h]))
  | tup _ _ ih1 ih2 => intro hn; exact .tup (ih1 fun id h => hn id (by simp [refsFs, refsF, h])) (ih2 fun id h => hn id (by simp [refsFs, h]))
  | slnil _ ih => intro hn; exact .slnil (ih fun id h => hn id (by simp [refsFs, h]))
  | sltnil _ ih => intro hn; exact .sltnil (ih fun id h => hn id (by simp [refsFs, h]))
  | slemp a _ ih => intro hn; exact .slemp a (ih fun id h => hn id (by simp [refsFs, h]))
  | sltemp a _ ih => intro hn; exact .sltemp a (ih fun id h => hn id (by simp [refsFs, h]))
  | sl b o c e' h h0 h1 h2 h3 h4 h5 _ _ ih2 => intro hn; exact .sl b o c e' (h.bare hfz (fzV_noRefs h0)) h0 h1 h2 h3 h4 (h5.bare hfz) (ih2 fun id h => hn id (by simp [refsFs, h]))
  | slt b o e' h h0 h1 h2 h3 h4 _ _ ih2 => intro hn; exact .slt b o e' (h.bare hfz (fzV_noRefs h0)) h0 h1 h2 h3 (h4.bare hfz) (ih2 fun id h => hn id (by simp [refsFs, h]))
  | lsl h1 h2 h3 h4 _ ih => intro hn; exact .lsl ((hn _ (by simp [refsFs, refsF])).1.trans h1) h2 h3 h4 (ih fun id h => hn id (by simp [refsFs, h]))
  | ptr g h1 h2 h3 h4 _ ih => intro hn; exact .ptr g ((hn _ (by simp [refsFs, refsF])).1.trans h1) h2 h3 h4 (ih fun id h => hn id (by simp [refsFs, h]))
  | ept b o e' i off h h0 h1 h2 h3 _ _ ih2 => intro hn; exact .ept b o e' i off (h.bare hfz (fzV_noRefs h0)) h0 h1 h2 (h3.bare hfz) (ih2 fun id h => hn id (by simp [refsFs, h]))
  | fn _ _ _ ih1 ih2 ih3 => intro hn; exact .fn (ih1 fun id h => hn id (by simp [refsFs, refsF, h])) (ih2 fun id h => hn id (by simp [refsFs, refsF, h])) (ih3 fun id h => hn id (by simp [refsFs, h]))
  | ifc _ _ ih1 ih2 => intro hn; exact .ifc (ih1 fun id h => hn id (by simp [refsFs, refsF] at h ⊢; simp [h])) (ih2 fun id h => hn id (by simp [refsFs, h]))
  | mref g h1 _ ih => intro hn; exact .mref g ((hn _ (by simp [refsFs, refsF])).2.trans h1) (ih fun id h => hn id (by simp [refsFs, h]))

theorem renF_reps {σ σ' : Sg} {w w' : World} {ρ : Nat → Nat} {x : V} {v : Value} (h : Reps σ w [x] [v]) (hfz : ∀ b c, σ.fz b c → σ'.fz b c ∧ w'.cell? ⟨b, c, none⟩ = w.cell? ⟨b, c, none⟩)
    (hn : ∀ id ∈ refsF x, σ'.box (ρ id) = σ.box id ∧ σ'.mp (ρ id) = σ.mp id) : Reps σ' w' [renF ρ x] [v] := renFs_reps h hfz (by simpa [refsFs] using hn)

/-! ### cells made ready -/

/-- The same boxes, some floors raised; perhaps more. -/
structure Keeps (H H1 : Heap) : Prop where
  len : H.length ≤ H1.length
  at_ : ∀ (id : Nat) (b : Box), H[id]? = some b → ∃ b', H1[id]? = some b' ∧ b'.live = b.live ∧ b'.row = b.row ∧ b'.xs = b.xs

theorem Keeps.refl (H : Heap) : Keeps H H := ⟨Nat.le_refl _, fun id b h => ⟨b, h, rfl, rfl, rfl⟩⟩
theorem Keeps.trans {A B C : Heap} (h : Keeps A B) (k : Keeps B C) : Keeps A C :=
  ⟨Nat.le_trans h.len k.len, fun id b hb => by
    obtain ⟨b1, h1, h2, h3, h4⟩ := h.at_ id b hb
    obtain ⟨b2, k1, k2, k3, k4⟩ := k.at_ id b1 h1
    simp_all⟩
theorem Keeps.bump (H : Heap) (ids : List Nat) : Keeps H (bump H ids) :=
  ⟨by rw [bump_length]; exact Nat.le_refl _, fun id b hb => ⟨_, by rw [bump_get, hb]; rfl, by split <;> rfl, by split <;> rfl, by split <;> rfl⟩⟩
theorem Keeps.push (H : Heap) (b : Box) : Keeps H (H ++ [b]) :=
  ⟨by simp, fun id b' hb => ⟨b', by grind, rfl, rfl, rfl⟩⟩

section
variable {B : Nat} {w0 : Start} {σ : Sg} {H H1 : Heap} {w : World}

theorem prep1_ok (h : Inv B w0 σ H w) {f : Fk} {x y : V} {v : Value} (hr : Reps σ w [x] [v]) (hp : prep1 f H x = some (y, H1)) : Keeps H H1 ∧ ∃ σ', Inv B w0 σ' H1 w ∧ Ext σ w σ' w ∧ Reps σ' w [y] [v] := by
  have mk : ∀ (e : TypeId) (sz : Nat), ∃ σ', Inv B w0 σ' (H ++ [newBox true false e sz []]) w ∧ Ext σ w σ' w ∧ Reps σ' w [.lsl H.length 0 0 0] [.slice none 0 0] := by
    intro e sz
    obtain ⟨σ', h1, h2, h3⟩ := push_ok (e := e) (esz := sz) (v' := .slice none 0 0) h (freeB_end H) (grownBy_refl w none) (xs := []) (us := []) .nil (by simp) (by simp) (by simp [flat]) ⟨by simp [flat], .inl ⟨rfl, rfl⟩⟩ (by simp [Value.ownBlock]) false (by simp)
    exact ⟨σ', by rw [place_end] at h1; exact h1, h2, h3⟩
  cases f with
  | s e sz =>
    simp only [prep1] at hp
    cases hf : frz0 H x with
    | none => simp [hf] at hp
    | some y0 =>
      simp only [hf, Option.map_some, Option.some.injEq, Prod.mk.injEq] at hp
      obtain ⟨rfl, rfl⟩ := hp
      obtain ⟨h1, h2⟩ := h.freeze (ids1 x)
      exact ⟨Keeps.bump _ _, _, h1, h2, retype1_reps sz (frz0_reps h hr hf (ids1 x) (fun i hi => hi))⟩
  | own e sz =>
    simp only [prep1] at hp
    unfold prepO at hp
    split at hp
    · simp only [Option.some.injEq, Prod.mk.injEq] at hp
      obtain ⟨rfl, rfl⟩ := hp
      cases hr with
      | slnil _ => exact ⟨Keeps.push _ _, mk e sz⟩
    · simp only [Option.some.injEq, Prod.mk.injEq] at hp
      obtain ⟨rfl, rfl⟩ := hp
      cases hr with
      | sltnil _ => exact ⟨Keeps.push _ _, mk e sz⟩
    · split at hp
      · simp only [Option.some.injEq, Prod.mk.injEq] at hp
        obtain ⟨rfl, rfl⟩ := hp
        exact ⟨Keeps.refl _, σ, h, Ext.refl _ _, hr⟩
      · cases hp
    · cases hp
  | keep =>
    simp only [prep1, Option.some.injEq, Prod.mk.injEq] at hp
    obtain ⟨rfl, rfl⟩ := hp
    exact ⟨Keeps.refl _, σ, h, Ext.refl _ _, hr⟩
  | drop =>
    simp only [prep1, Option.some.injEq, Prod.mk.injEq] at hp
    obtain ⟨rfl, rfl⟩ := hp
    exact ⟨Keeps.refl _, σ, h, Ext.refl _ _, .und _ .nil⟩

theorem prepL_ok : ∀ {fl : List Fk} {H : Heap} {σ : Sg} {xs ys : List V} {vs : List Value} {H1 : Heap}, Inv B w0 σ H w → Reps σ w xs vs → prepL fl H xs = some (ys, H1) → Keeps H H1 ∧ ∃ σ', Inv B w0 σ' H1 w ∧ Ext σ w σ' w ∧ Reps σ' w ys vs := by
  intro fl
  induction fl with
  | nil =>
    intro H σ xs ys vs H1 h hr hp
    cases xs with
    | nil =>
      simp only [prepL, Option.some.injEq, Prod.mk.injEq] at hp
      obtain ⟨rfl, rfl⟩ := hp
      exact ⟨Keeps.refl _, σ, h, Ext.refl _ _, hr⟩
    | cons => simp [prepL] at hp
  | cons f fl ih =>
    intro H σ xs ys vs H1 h hr hp
    cases xs with
    | nil => simp [prepL] at hp
    | cons x xs =>
      obtain ⟨v, vs', rfl, hr1, hr2⟩ := hr.cons_left
      simp only [prepL] at hp
      cases h1 : prep1 f H x with
      | none => simp [h1] at hp
      | some r =>
        obtain ⟨y, Ha⟩ := r
        simp only [h1] at hp
        cases h2 : prepL fl Ha xs with
        | none => simp [h2] at hp
        | some r =>
          obtain ⟨ys', Hb⟩ := r
          simp only [h2, Option.some.injEq, Prod.mk.injEq] at hp
          obtain ⟨rfl, rfl⟩ := hp
          obtain ⟨k1, σ1, i1, e1, r1⟩ := prep1_ok h hr1 h1
          obtain ⟨k2, σ2, i2, e2, r2⟩ := ih i1 (hr2.ext e1) h2
          exact ⟨k1.trans k2, σ2, i2, e1.trans e2, Reps.cons_iff.2 ⟨r1.ext e2, r2⟩⟩

theorem prepV_ok (h : Inv B w0 σ H w) {fl : List Fk} {x y : V} {v : Value} (hr : Reps σ w [x] [v]) (hp : prepV fl H x = some (y, H1)) : Keeps H H1 ∧ ∃ σ', Inv B w0 σ' H1 w ∧ Ext σ w σ' w ∧ Reps σ' w [y] [v] := by
  unfold prepV at hp
  split at hp
  · rename_i cs
    cases hl : prepL fl H cs with
    | none => simp [hl] at hp
    | some r =>
      obtain ⟨ys, Ha⟩ := r
      simp only [hl, Option.map_some, Option.some.injEq, Prod.mk.injEq] at hp
      obtain ⟨rfl, rfl⟩ := hp
      cases hr with
      | agg h1 ho _ =>
        obtain ⟨k1, σ1, i1, e1, r1⟩ := prepL_ok h h1 hl
        exact ⟨k1, σ1, i1, e1, .agg r1 ho .nil⟩
  · split at hp
    · exact prep1_ok h hr hp
    · cases hp

theorem prepA_ok : ∀ {fl : List (List Fk)} {H : Heap} {σ : Sg} {xs ys : List V} {vs : List Value} {H1 : Heap}, Inv B w0 σ H w → Reps σ w xs vs → prepA fl H xs = some (ys, H1) → Keeps H H1 ∧ ∃ σ', Inv B w0 σ' H1 w ∧ Ext σ w σ' w ∧ Reps σ' w ys vs := by
  intro fl
  induction fl with
  | nil =>
    intro H σ xs ys vs H1 h hr hp
    cases xs with
    | nil =>
      simp only [prepA, Option.some.injEq, Prod.mk.injEq] at hp
      obtain ⟨rfl, rfl⟩ := hp
      exact ⟨Keeps.refl _, σ, h, Ext.refl _ _, hr⟩
    | cons => simp [prepA] at hp
  | cons f fl ih =>
    intro H σ xs ys vs H1 h hr hp
    cases xs with
    | nil => simp [prepA] at hp
    | cons x xs =>
      obtain ⟨v, vs', rfl, hr1, hr2⟩ := hr.cons_left
      simp only [prepA] at hp
      cases h1 : prepV f H x with
      | none => simp [h1] at hp
      | some r =>
        obtain ⟨y, Ha⟩ := r
        simp only [h1] at hp
        cases h2 : prepA fl Ha xs with
        | none => simp [h2] at hp
        | some r =>
          obtain ⟨ys', Hb⟩ := r
          simp only [h2, Option.some.injEq, Prod.mk.injEq] at hp
          obtain ⟨rfl, rfl⟩ := hp
          obtain ⟨k1, σ1, i1, e1, r1⟩ := prepV_ok h hr1 h1
          obtain ⟨k2, σ2, i2, e2, r2⟩ := ih i1 (hr2.ext e1) h2
          exact ⟨k1.trans k2, σ2, i2, e1.trans e2, Reps.cons_iff.2 ⟨r1.ext e2, r2⟩⟩

/-- A variable's value is shown in another way. -/
theorem Inv.swap (h : Inv B w0 σ H w) {id : Nat} {b : Box} {x y : V} (hb : H[id]? = some b) (hl : b.live = true) (hrow : b.row = false) (hx : b.xs = [x]) (hy : okV y = true) (hr : ∀ v, Reps σ w [x] [v] → Reps σ w [y] [v]) :
    ∃ σ', Inv B w0 σ' (H.set id { b with xs := [y] }) w ∧ Ext σ w σ' w := by
  obtain ⟨L, hL, hok⟩ := h.boxes id b hb hl
  obtain ⟨us, r1, r2, r3, r4⟩ := hok.reps
  rw [hx] at r1
  obtain ⟨u, us', rfl, r5, r6⟩ := r1.cons_left
  cases r6.nil_left
  obtain ⟨h1, h2⟩ := h.upd hb hl hL (grownBy_refl w _) { b with xs := [y] } hl L rfl (.inl rfl) rfl (by simp [hx]) (fun g hg => .inl hg) (fun _ _ _ _ => rfl)
    (fun ex => ⟨by rw [hok.tot, hx]; rfl, ⟨[u], (hr u r5).ext ex, r2, r3, by simpa [hx] using r4⟩, hok.nilp, hok.esz, by simpa using hy, fun hh => by simp_all⟩)
  exact ⟨_, h1, h2⟩

/-- A part of the boxes that names no box outside. -/
structure SubOK (ids : List Nat) (H : Heap) : Prop where
  nodup : ids.Nodup
  at_ : ∀ id ∈ ids, ∃ b, H[id]? = some b ∧ b.live = true ∧ (b.row = false → ∀ r ∈ refsFs b.xs, r ∈ ids)

theorem packH_ok : ∀ (n : Nat) {fb : List Bf} {H : Heap} {σ : Sg} {todo seen ids : List Nat} {H2 : Heap}, Inv B w0 σ H w → packH n fb H todo seen = some (H2, ids) → seen.Nodup →
    (∀ id ∈ seen, ∃ b, H[id]? = some b ∧ b.live = true ∧ (b.row = false → ∀ r ∈ refsFs b.xs, r ∈ seen ++ todo)) →
    H.length ≤ H2.length ∧ (∀ id ∈ seen ++ todo, id ∈ ids) ∧ SubOK ids H2 ∧ ∃ σ', Inv B w0 σ' H2 w ∧ Ext σ w σ' w := by
  intro n
  induction n with
  | zero => intro fb H σ todo seen ids H2 _ h; cases h
  | succ n ih =>
    intro fb H σ todo seen ids H2 hI h hnd hcl
    cases todo with
    | nil =>
      simp only [packH, Option.some.injEq, Prod.mk.injEq] at h
      obtain ⟨rfl, rfl⟩ := h
      exact ⟨Nat.le_refl _, by simp, ⟨hnd, by simpa using hcl⟩, σ, hI, Ext.refl _ _⟩
    | cons id todo =>
      unfold packH at h
      by_cases hin : seen.contains id = true
      · grind
      · rw [if_neg hin] at h
        have hin' : id ∉ seen := by simpa using hin
        have hnd' : (seen ++ [id]).Nodup := by
          rw [List.nodup_append]
          exact ⟨hnd, by simp, fun a ha b hb => by simp at hb; subst hb; intro e; subst e; exact hin' ha⟩
        have hmem : ∀ {i : Nat} {t : List Nat}, i ∈ seen ++ id :: todo → i ∈ (seen ++ [id]) ++ (todo ++ t) := by
          intro i t hi
          simp only [List.mem_append, List.mem_cons] at hi ⊢
          rcases hi with hx | hx | hx
          · exact .inl (.inl hx)
          · exact .inl (.inr (.inl hx))
          · exact .inr (.inl hx)
        split at h
        · rename_i b fresh fb' hb
          split at h
          · rename_i hc
            simp only [Bool.and_eq_true] at hc
            generalize hH' : (if fresh then H else bump H [id]) = H' at h
            have hk : Keeps H H' ∧ ∃ σ', Inv B w0 σ' H' w ∧ Ext σ w σ' w := by
              cases fresh with
              | true => rw [if_pos rfl] at hH'; subst hH'; exact ⟨Keeps.refl _, σ, hI, Ext.refl _ _⟩
              | false =>
                rw [if_neg (by simp)] at hH'
                subst hH'
                obtain ⟨i1, i2⟩ := hI.freeze [id]
                exact ⟨Keeps.bump _ _, _, i1, i2⟩
            obtain ⟨hk, σ1, hI1, hE1⟩ := hk
            obtain ⟨h1, h2, h3, σ2, h4, h5⟩ := ih hI1 h hnd' (fun i hi => by
              simp only [List.mem_append, List.mem_singleton] at hi
              have key : ∃ b0, H[i]? = some b0 ∧ b0.live = true ∧ (b0.row = false → ∀ r ∈ refsFs b0.xs, r ∈ seen ++ id :: todo) := by
                rcases hi with hi | rfl
                · exact hcl i hi
                · exact ⟨b, hb, hc.1, fun hr => by rw [hc.2] at hr; cases hr⟩
              obtain ⟨b0, k1, k2, k3⟩ := key
              obtain ⟨b', m1, m2, m3, m4⟩ := hk.at_ i b0 k1
              grind)
            refine ⟨Nat.le_trans hk.len h1, fun i hi => h2 i ?_, h3, σ2, h4, hE1.trans h5⟩
            grind
          · cases h
        · rename_i b fl fb' hb
          split at h
          · rename_i hc
            simp only [Bool.and_eq_true, Bool.not_eq_true'] at hc
            split at h
            · rename_i x hx
              split at h
              · rename_i y H1 hp
                split at h
                · rename_i b1 hb1
                  split at h
                  · rename_i hoky
                    obtain ⟨L, hL, hok⟩ := hI.boxes id b hb hc.1
                    obtain ⟨us, r1, r2, r3, r4⟩ := hok.reps
                    rw [hx] at r1
                    obtain ⟨u, us', rfl, r5, r6⟩ := r1.cons_left
                    obtain ⟨hk, σ1, hI1, hE1, hy⟩ := prepV_ok hI r5 hp
                    obtain ⟨b1', m1, m2, m3, m4⟩ := hk.at_ id b hb
                    rw [hb1] at m1
                    cases m1
                    have hlive1 : b1.live = true := m2.trans hc.1
                    have hrow1 : b1.row = false := m3.trans hc.2
                    have hx1 : b1.xs = [x] := m4.trans hx
                    -- the one value that the box holds
                    have hsw : ∃ σ2, Inv B w0 σ2 (H1.set id { b1 with xs := [y] }) w ∧ Ext σ1 w σ2 w := by
                      obtain ⟨L1, hL1, hok1⟩ := hI1.boxes id b1 hb1 hlive1
                      obtain ⟨us1, s1, s2, s3, s4⟩ := hok1.reps
                      rw [hx1] at s1
                      obtain ⟨u1, us1', rfl, s5, s6⟩ := s1.cons_left
                      cases s6.nil_left
                      cases r6.nil_left
                      have hu : u1.cells.toList = u.cells.toList := by
                        obtain ⟨L', hL', he, hLL⟩ := hE1.box id L hL
                        rw [hL1] at hL'
                        cases hL'
                        have ht1 : L1.tot = 1 := by rw [hok1.tot, hx1]; rfl
                        have ht : L.tot = 1 := by rw [hok.tot, hx]; rfl
                        have hLe : L1 = L := by
                          rcases hLL with e | e
                          · exact e
                          · omega
                        subst hLe
                        rcases r4.2 with ⟨hv, hn⟩ | ⟨g, cap, cur, tg, hv, _, hg, _, _, _, _, hcur⟩
                        · grind
                        · rcases s4.2 with ⟨hv', hn'⟩ | ⟨g', cap', cur', tg', hv', _, hg', _, _, _, _, hcur'⟩
                          · grind
                          · rw [hv] at hv'
                            simp only [Value.slice.injEq, Option.some.injEq, Addr.mk.injEq, and_true] at hv'
                            obtain ⟨rfl, _, _⟩ := hv'
                            rw [hg] at hg'
                            simp only [Option.some.injEq, Obj.cells.injEq] at hg'
                            obtain ⟨rfl, _⟩ := hg'
                            rw [single_flat] at hcur hcur'
                            grind
                      obtain ⟨i1, i2⟩ := hI1.upd hb1 hlive1 hL1 (grownBy_refl w _) { b1 with xs := [y] } hlive1 L1 rfl (.inl rfl) rfl (by simp [hx1]) (fun g hg => .inl hg) (fun _ _ _ _ => rfl)
                        (fun ex => ⟨by rw [hok1.tot, hx1]; rfl, ⟨[u], hy.ext ex, fun z hz => by simp at hz; subst hz; rw [← s2 u1 (by simp)]; exact (congrArg List.length hu).symm, fun z hz => s3 z (by rw [single_flat] at hz ⊢; rw [hu]; exact hz), by
                          rw [single_flat, ← hu, ← single_flat]; simpa [hx1] using s4⟩, hok1.nilp, hok1.esz, by simpa using hoky, fun hh => by simp only at hh; rw [hrow1] at hh; cases hh⟩)
                      exact ⟨_, i1, i2⟩
                    obtain ⟨σ2, hI2, hE2⟩ := hsw
                    have hlen1 : id < H1.length := (List.getElem?_eq_some_iff.1 hb1).1
                    obtain ⟨h1, h2, h3, σ3, h4, h5⟩ := ih hI2 h hnd' (fun i hi => by
                      simp only [List.mem_append, List.mem_singleton] at hi
                      by_cases hid : i = id
                      · subst hid
                        refine ⟨{ b1 with xs := [y] }, by simp [hlen1], hlive1, fun _ r hh => ?_⟩
                        simp only [refsFs, List.append_nil] at hh
                        simp [hh]
                      · have hi' : i ∈ seen := by rcases hi with hi | hi; exact hi; exact absurd hi hid
                        obtain ⟨b0, k1, k2, k3⟩ := hcl i hi'
                        obtain ⟨b', q1, q2, q3, q4⟩ := hk.at_ i b0 k1
                        grind)
                    refine ⟨Nat.le_trans hk.len (by simpa using h1), fun i hi => h2 i (hmem hi), h3, σ3, h4, hE1.trans (hE2.trans h5)⟩
                  · cases h
                · cases h
              · cases h
            · cases h
          · cases h
        · cases h

end

end Go.Proofs.YtpikcdlhgiooaaaGreat.Le

/-
  Calls that are given boxes: they are sound.
-/
namespace Go.Proofs.YtpikcdlhgiooaaaGreat.Le
set_option linter.unusedVariables false
open Go.RowKit (Below)

def Sg.ren (σ : Sg) (ids : List Nat) : Sg := ⟨fun j => (ids[j]?).bind σ.box, σ.fz, fun j => (ids[j]?).bind σ.mp⟩

theorem idx_get {ids : List Nat} {id : Nat} (h : id ∈ ids) : ids[ids.idxOf id]? = some id := by
  grind

theorem ren_box {σ : Sg} {ids : List Nat} {id : Nat} (h : id ∈ ids) : (σ.ren ids).box (ids.idxOf id) = σ.box id := by
  simp [Sg.ren, idx_get h]
theorem ren_mp {σ : Sg} {ids : List Nat} {id : Nat} (h : id ∈ ids) : (σ.ren ids).mp (ids.idxOf id) = σ.mp id := by
  simp [Sg.ren, idx_get h]

theorem ownsRow_block {w w' : World} {B e sz n : Nat} {v : Value} {us : List Value} (h : ownR w B e sz v n us) (hb : ∀ g, v.ownBlock = some g → w'.heap[g]? = w.heap[g]?) : ownR w' B e sz v n us := by
  refine ⟨h.1, ?_⟩
  rcases h.2 with hn | ⟨g, cap, cur, tg, rfl, h1, h2, rest⟩
  · exact .inl hn
  · exact .inr ⟨g, cap, cur, tg, rfl, h1, by rw [hb g (by simp [Value.ownBlock])]; exact h2, rest⟩

theorem renBox_eqs (ρ : Nat → Nat) (b : Box) : (renBox ρ b).live = b.live ∧ (renBox ρ b).row = b.row ∧ (renBox ρ b).nilp = b.nilp ∧ (renBox ρ b).elem = b.elem ∧ (renBox ρ b).esz = b.esz ∧ (renBox ρ b).floor = b.floor ∧ (renBox ρ b).xs.length = b.xs.length := by
  unfold renBox
  split
  · simp_all
  · exact ⟨rfl, rfl, rfl, rfl, rfl, rfl, renFs_length _ _⟩

/-- A box under other names. -/
theorem BoxOK.ren {σ σ' : Sg} {w w' : World} {B : Nat} {b : Box} {L : Loc} (ρ : Nat → Nat) (h : BoxOK σ w B b L) (hfz : ∀ b c, σ.fz b c → σ'.fz b c ∧ w'.cell? ⟨b, c, none⟩ = w.cell? ⟨b, c, none⟩)
    (hn : b.row = false → ∀ id ∈ refsFs b.xs, σ'.box (ρ id) = σ.box id ∧ σ'.mp (ρ id) = σ.mp id) (hb : ∀ g, L.v.ownBlock = some g → w'.heap[g]? = w.heap[g]?) : BoxOK σ' w' B (renBox ρ b) L := by
  obtain ⟨e1, e2, e3, e4, e5, e6, e7⟩ := renBox_eqs ρ b
  obtain ⟨us, r1, r2, r3, r4⟩ := h.reps
  have hr : Reps σ' w' (renBox ρ b).xs us := by
    unfold renBox
    split
    · rename_i hrow; exact r1.bare hfz ((noRefs_iff _).2 (h.fzs hrow))
    · rename_i hrow; exact renFs_reps r1 hfz (hn (by simpa using hrow))
  refine ⟨by rw [e7]; exact h.tot, ⟨us, hr, r2, r3, by rw [e4, e7]; exact ownsRow_block r4 hb⟩, by rw [e3]; exact h.nilp, by rw [e5]; exact h.esz, ?_, ?_⟩
  · intro x hx
    unfold renBox at hx
    split at hx
    · exact h.oks x hx
    · simp only [renFs_map, List.mem_map] at hx
      obtain ⟨y, hy, rfl⟩ := hx
      rw [renF_ok]
      exact h.oks y hy
  · intro hrow x hx
    rw [e2] at hrow
    unfold renBox at hx
    rw [if_pos hrow] at hx
    exact h.fzs hrow x hx

section
variable {B : Nat} {w0 : Start} {σ : Sg} {H : Heap} {w : World} {ids : List Nat}

theorem subH_get (H : Heap) (ids : List Nat) (j : Nat) : (subH H ids)[j]? = (ids[j]?).map fun id => renBox (ids.idxOf ·) ((H[id]?).getD deadBox) := by
  simp [subH]

theorem nodup_get {l : List Nat} (h : l.Nodup) {i j x : Nat} (hi : l[i]? = some x) (hj : l[j]? = some x) : i = j := by
  obtain ⟨h1, e1⟩ := List.getElem?_eq_some_iff.1 hi
  obtain ⟨h2, e2⟩ := List.getElem?_eq_some_iff.1 hj
  exact (List.getElem_inj h).1 (e1.trans e2.symm)

theorem sub_reps {xs : List V} {vs : List Value} (hr : Reps σ w xs vs) (hm : ∀ id ∈ refsFs xs, id ∈ ids) : Reps (σ.ren ids) w (renFs (ids.idxOf ·) xs) vs :=
  renFs_reps hr (fun b c hh => ⟨hh, rfl⟩) fun id hid => ⟨ren_box (hm id hid), ren_mp (hm id hid)⟩

/-- A part of the boxes, by itself. -/
theorem sub_ok (h : Inv B w0 σ H w) (hs : SubOK ids H) (w1 : Start) (hbelow : Below B w1.w w) (hold : ∀ b c, σ.fz b c → b < B → w1.fz b c)
    (hk : ∀ b, w1.keep b → b < w.heap.size ∧ w.heap[b]? = w1.w.heap[b]? ∧ (∀ id ∈ ids, ∀ L, σ.box id = some L → L.v.ownBlock ≠ some b) ∧ ∀ c, σ.fz b c → w1.fz b c) : Inv B w1 (σ.ren ids) (subH H ids) w := by
  have hbox : ∀ {j : Nat} {L : Loc}, (σ.ren ids).box j = some L → ∃ id, ids[j]? = some id ∧ σ.box id = some L := by
    intro j L hL
    simp only [Sg.ren] at hL
    cases hj : ids[j]? with
    | none => simp [hj] at hL
    | some id => simp_all
  have hget : ∀ {j : Nat} {b' : Box}, (subH H ids)[j]? = some b' → ∃ id b, ids[j]? = some id ∧ H[id]? = some b ∧ b.live = true ∧ (b.row = false → ∀ r ∈ refsFs b.xs, r ∈ ids) ∧ b' = renBox (ids.idxOf ·) b := by
    intro j b' hb
    rw [subH_get] at hb
    cases hj : ids[j]? with
    | none => simp [hj] at hb
    | some id =>
      obtain ⟨b, k1, k2, k3⟩ := hs.at_ id (List.mem_of_getElem? hj)
      simp_all
  have hnom : ∀ (j g : Nat), (σ.ren ids).mp j = some g → False := by
    intro j g hm
    simp only [Sg.ren, Option.bind_eq_some_iff] at hm
    obtain ⟨id, hj, hm⟩ := hm
    obtain ⟨b, k1, k2, k3⟩ := hs.at_ id (List.mem_of_getElem? hj)
    obtain ⟨_, _, _, b', hb', hmb⟩ := h.maps.dom id g hm
    rw [k1] at hb'
    cases hb'
    have := mapB_dead hmb
    simp_all
  refine ⟨hbelow, h.size, ?_, ?_, ?_, h.cells, ?_, ?_, hold, fun b hb => ?_, ⟨fun j b hb hm => ?_, fun j g hm => (hnom j g hm).elim, fun j _ g hm _ => (hnom j g hm).elim⟩⟩
  · intro j L hL
    obtain ⟨id, h1, h2⟩ := hbox hL
    obtain ⟨b, k1, k2, k3⟩ := hs.at_ id (List.mem_of_getElem? h1)
    refine ⟨renBox (ids.idxOf ·) b, by rw [subH_get, h1]; simp [k1], .inl ?_⟩
    rw [(renBox_eqs _ b).1]; exact k2
  · intro j b' hb hl
    obtain ⟨id, b, h1, h2, h3, h4, rfl⟩ := hget hb
    obtain ⟨L, hL, hok⟩ := h.boxes id b h2 h3
    refine ⟨L, by simp [Sg.ren, h1, hL], hok.ren _ (fun b c hh => ⟨hh, rfl⟩) (fun hr r hh => ⟨ren_box (h4 hr r hh), ren_mp (h4 hr r hh)⟩) (fun _ _ => rfl)⟩
  · intro j j' b1 b2 L1 L2 g h1 h2 l1 l2 s1 s2 g1 g2
    obtain ⟨i1, e1, t1⟩ := hbox s1
    obtain ⟨i2, e2, t2⟩ := hbox s2
    obtain ⟨i1', c1, f1, p1, p2, _⟩ := hget h1
    obtain ⟨i2', c2, f2, q1, q2, _⟩ := hget h2
    rw [e1] at f1; cases f1
    rw [e2] at f2; cases f2
    have := h.apart i1 i2 c1 c2 L1 L2 g p1 q1 p2 q2 t1 t2 g1 g2
    subst this
    exact nodup_get hs.nodup e1 e2
  · intro b c hc j b' L hb hl hL hg
    obtain ⟨id, hid, hL'⟩ := hbox hL
    obtain ⟨id', b0, f1, p1, p2, _, rfl⟩ := hget hb
    rw [hid] at f1; cases f1
    rw [(renBox_eqs _ b0).2.2.2.2.2.1]
    exact h.floor b c hc id b0 L p1 p2 hL' hg
  · intro j b' hb hl
    obtain ⟨id, b0, f1, p1, p2, _, rfl⟩ := hget hb
    obtain ⟨_, _, _, _, _, e6, e7⟩ := renBox_eqs (ids.idxOf ·) b0
    rw [e6, e7]
    exact h.low id b0 p1 p2
  · obtain ⟨k1, k2, k3, k4⟩ := hk b hb
    refine ⟨k1, k2, fun j L hL hg => ?_, k4⟩
    grind
  · exfalso
    obtain ⟨id, b0, f1, p1, p2, _, rfl⟩ := hget hb
    have := mapB_dead hm
    rw [(renBox_eqs _ b0).1, p2] at this
    cases this.1

/-! ### the way back -/

def tauN (ids : List Nat) (n i : Nat) : Option Nat := if i < n then (if i ∈ ids then some (ids.idxOf i) else none) else some (ids.length + (i - n))

theorem putB_get : ∀ {ids : List Nat} {H bs : Heap} (i : Nat), ids.Nodup → (∀ id ∈ ids, id < H.length) → ids.length ≤ bs.length →
    (putB H ids bs)[i]? = match tauN ids H.length i with | some j => bs[j]? | none => H[i]? := by
  intro ids
  induction ids with
  | nil =>
    intro H bs i _ _ _
    unfold tauN
    simp only [putB, List.getElem?_append, List.not_mem_nil, if_false, List.length_nil, Nat.zero_add]
    split <;> rfl
  | cons id ids ih =>
    intro H bs i hn hl hb
    cases bs with
    | nil => simp at hb
    | cons b bs =>
      rw [List.nodup_cons] at hn
      rw [putB, ih i hn.2 (fun j hj => by simp_all) (by simpa using hb)]
      have hid := hl id (by simp)
      unfold tauN
      simp only [List.length_set, List.mem_cons, List.length_cons]
      grind

theorem putBack_get {H3 : Heap} (i : Nat) (hn : ids.Nodup) (hl : ∀ id ∈ ids, id < H.length) (hb : ids.length ≤ H3.length) :
    (putBack H ids H3)[i]? = match tauN ids H.length i with | some j => (H3[j]?).map (renBox (backN ids H.length)) | none => H[i]? := by
  unfold putBack
  rw [putB_get i hn hl (by simpa using hb)]
  split <;> simp

theorem tau_inj {n i i' j : Nat} (hn : ids.Nodup) (h1 : tauN ids n i = some j) (h2 : tauN ids n i' = some j) : i = i' := by
  unfold tauN at h1 h2
  have key : ∀ {x : Nat}, x ∈ ids → ids.idxOf x < ids.length := fun h => List.idxOf_lt_length_of_mem h
  split at h1 <;> split at h2
  · split at h1 <;> split at h2
    · rename_i m1 m2
      simp only [Option.some.injEq] at h1 h2
      have e1 := idx_get m1
      grind
    · cases h2
    · cases h1
    · cases h1
  · grind
  · grind
  grind

theorem tau_back {n : Nat} (hn : ids.Nodup) (hl : ∀ id ∈ ids, id < n) (j : Nat) : tauN ids n (backN ids n j) = some j := by
  unfold backN tauN
  grind

def Sg.back (σ σ1 : Sg) (ids : List Nat) (n : Nat) : Sg := ⟨fun i => match tauN ids n i with | some j => σ1.box j | none => σ.box i, σ1.fz, fun i => match tauN ids n i with | some j => σ1.mp j | none => σ.mp i⟩

theorem back_box {σ1 : Sg} {n : Nat} (hn : ids.Nodup) (hl : ∀ id ∈ ids, id < n) (j : Nat) : (σ.back σ1 ids n).box (backN ids n j) = σ1.box j := by
  simp only [Sg.back, tau_back hn hl]
theorem back_both {σ1 : Sg} {n : Nat} (hn : ids.Nodup) (hl : ∀ id ∈ ids, id < n) (j : Nat) : (σ.back σ1 ids n).box (backN ids n j) = σ1.box j ∧ (σ.back σ1 ids n).mp (backN ids n j) = σ1.mp j := by
  simp only [Sg.back, tau_back hn hl, and_self]

/-- The blocks of the boxes outside. -/
def outer (σ : Sg) (H : Heap) (ids : List Nat) (w0 : Start) (b : Nat) : Prop := w0.keep b ∨ (∃ id L bx, id ∉ ids ∧ H[id]? = some bx ∧ bx.live = true ∧ σ.box id = some L ∧ L.v.ownBlock = some b) ∨ ∃ id, σ.mp id = some b

theorem back_ok {σ1 : Sg} {H3 : Heap} {w' : World} (h : Inv B w0 σ H w) (hs : SubOK ids H) (h1 : Inv B ⟨w, σ.fz, outer σ H ids w0⟩ σ1 H3 w') (hE : Ext (σ.ren ids) w σ1 w') (hlen : ids.length ≤ H3.length) :
    Inv B w0 (σ.back σ1 ids H.length) (putBack H ids H3) w' ∧ Ext σ w (σ.back σ1 ids H.length) w' := by
  have hlt : ∀ id ∈ ids, id < H.length := fun id hid => by
    obtain ⟨b, k1, _⟩ := hs.at_ id hid
    grind
  have hfz : ∀ b c, σ.fz b c → σ1.fz b c ∧ w'.cell? ⟨b, c, none⟩ = w.cell? ⟨b, c, none⟩ := hE.fz
  have e : Ext σ w (σ.back σ1 ids H.length) w' := by
    refine ⟨fun i L hL => ?_, hfz, fun i g hm => ?_⟩
    case refine_2 =>
      obtain ⟨_, _, _, b', hb', hmb⟩ := h.maps.dom i g hm
      have hni : i ∉ ids := fun hin => by
        obtain ⟨b, k1, k2, k3⟩ := hs.at_ i hin
        rw [k1] at hb'
        cases hb'
        have := mapB_dead hmb
        simp_all
      have hi : i < H.length := (List.getElem?_eq_some_iff.1 hb').1
      have ht : tauN ids H.length i = none := by simp [tauN, hi, hni]
      simp only [Sg.back, ht]
      exact hm
    have hi := h.dom_lt hL
    simp only [Sg.back]
    by_cases hm : i ∈ ids
    · have ht : tauN ids H.length i = some (ids.idxOf i) := by simp [tauN, hi, hm]
      simp only [ht]
      exact hE.box _ L (by rw [ren_box hm]; exact hL)
    · have ht : tauN ids H.length i = none := by simp [tauN, hi, hm]
      simp_all
  have hget : ∀ i, (putBack H ids H3)[i]? = match tauN ids H.length i with | some j => (H3[j]?).map (renBox (backN ids H.length)) | none => H[i]? := fun i => putBack_get i hs.nodup hlt hlen
  have hout : ∀ {i : Nat} {bx : Box} {L : Loc} {g : Nat}, tauN ids H.length i = none → H[i]? = some bx → bx.live = true → σ.box i = some L → L.v.ownBlock = some g → outer σ H ids w0 g := by
    intro i bx L g ht hb hl hL hg
    refine .inr (.inl ⟨i, L, bx, ?_, hb, hl, hL, hg⟩)
    intro hm
    simp [tauN, hlt i hm, hm] at ht
  have hcase : ∀ {i : Nat} {b' : Box}, (putBack H ids H3)[i]? = some b' → (∃ j b, tauN ids H.length i = some j ∧ H3[j]? = some b ∧ b' = renBox (backN ids H.length) b) ∨ (tauN ids H.length i = none ∧ H[i]? = some b') := by
    intro i b' hb
    rw [hget] at hb
    cases ht : tauN ids H.length i with
    | none => rw [ht] at hb; exact .inr ⟨rfl, hb⟩
    | some j =>
      rw [ht] at hb
      simp only [Option.map_eq_some_iff] at hb
      obtain ⟨b, h2, h3⟩ := hb
      exact .inl ⟨j, b, rfl, h2, h3.symm⟩
  refine ⟨⟨h.below.trans h1.below, h1.size, ?_, ?_, ?_, h1.cells, ?_, ?_, fun b c hc hlt' => h.old b c (h1.old b c hc hlt') hlt', fun b hb => ?_, ⟨fun i b' hb hm => ?_, fun i g hm => ?_, fun i i' g p1 p2 => ?_⟩⟩, e⟩
  · intro i L hL
    simp only [Sg.back] at hL
    rw [hget]
    cases ht : tauN ids H.length i with
    | none => rw [ht] at hL; exact h.dom i L hL
    | some j =>
      rw [ht] at hL
      obtain ⟨b, k1, k2⟩ := h1.dom j L hL
      exact ⟨renBox (backN ids H.length) b, by simp [k1], by rw [(renBox_eqs _ b).1, (renBox_eqs _ b).2.1]; exact k2⟩
  · intro i b' hb hl
    rcases hcase hb with ⟨j, b, ht, hj, rfl⟩ | ⟨ht, hi⟩
    · rw [(renBox_eqs _ b).1] at hl
      obtain ⟨L, hL, hok⟩ := h1.boxes j b hj hl
      refine ⟨L, by simp only [Sg.back, ht]; exact hL, hok.ren _ (fun b c hh => ⟨hh, rfl⟩) (fun _ r _ => back_both hs.nodup hlt r) (fun _ _ => rfl)⟩
    · obtain ⟨L, hL, hok⟩ := h.boxes i b' hi hl
      obtain ⟨us, r1, r2, r3, r4⟩ := hok.reps
      refine ⟨L, by simp only [Sg.back, ht]; exact hL, hok.tot, ⟨us, r1.ext e, r2, r3, ownsRow_block r4 fun g hg => ?_⟩, hok.nilp, hok.esz, hok.oks, hok.fzs⟩
      exact (h1.kept g (hout ht hi hl hL hg)).2.1
  · intro i i' b1 b2 L1 L2 g p1 p2 l1 l2 s1 s2 g1 g2
    simp only [Sg.back] at s1 s2
    rcases hcase p1 with ⟨j, c1, t1, q1, rfl⟩ | ⟨t1, q1⟩ <;> rcases hcase p2 with ⟨j', c2, t2, q2, rfl⟩ | ⟨t2, q2⟩
    · rw [t1] at s1; rw [t2] at s2
      rw [(renBox_eqs _ _).1] at l1 l2
      have := h1.apart j j' c1 c2 L1 L2 g q1 q2 l1 l2 s1 s2 g1 g2
      subst this
      exact tau_inj hs.nodup t1 t2
    · rw [t1] at s1; rw [t2] at s2
      exact absurd g1 ((h1.kept g (hout t2 q2 l2 s2 g2)).2.2.1 j L1 s1)
    · rw [t1] at s1; rw [t2] at s2
      exact absurd g2 ((h1.kept g (hout t1 q1 l1 s1 g1)).2.2.1 j' L2 s2)
    · rw [t1] at s1; rw [t2] at s2
      exact h.apart i i' b1 b2 L1 L2 g q1 q2 l1 l2 s1 s2 g1 g2
  · intro b c hc i b' L hb hl hL hg
    simp only [Sg.back] at hL hc
    rcases hcase hb with ⟨j, b0, ht, hj, rfl⟩ | ⟨ht, hi⟩
    · rw [ht] at hL
      rw [(renBox_eqs _ b0).1] at hl
      rw [(renBox_eqs _ b0).2.2.2.2.2.1]
      exact h1.floor b c hc j b0 L hj hl hL hg
    · rw [ht] at hL
      exact h.floor b c ((h1.kept b (hout ht hi hl hL hg)).2.2.2 c hc) i b' L hi hl hL hg
  · intro i b' hb hl
    rcases hcase hb with ⟨j, b0, ht, hj, rfl⟩ | ⟨ht, hi⟩
    · obtain ⟨e1, _, _, _, _, e6, e7⟩ := renBox_eqs (backN ids H.length) b0
      rw [e6, e7]
      rw [e1] at hl
      exact h1.low j b0 hj hl
    · exact h.low i b' hi hl
  · obtain ⟨k1, k2, k3, k4⟩ := h.kept b hb
    obtain ⟨m1, m2, m3, m4⟩ := h1.kept b (.inl hb)
    refine ⟨m1, m2.trans k2, fun i L hL hg => ?_, fun c hc => k4 c (m4 c hc)⟩
    simp only [Sg.back] at hL
    grind
  · rcases hcase hb with ⟨j, b, ht, hj, rfl⟩ | ⟨ht, hi⟩
    · obtain ⟨e1, e2, e3, _⟩ := renBox_eqs (backN ids H.length) b
      have hmb : mapB b = true := by simpa only [mapB, e1, e2, e3] using hm
      obtain ⟨g, es, c, us, q1, q2, q3, q4, q5⟩ := h1.maps.ok j b hj hmb
      have hx : (renBox (backN ids H.length) b).xs = b.xs := by unfold renBox; rw [if_pos (mapB_dead hmb).2]
      exact ⟨g, es, c, us, by simp only [Sg.back, ht]; exact q1, q2, by rw [hx]; exact q3.bare (fun b c hh => ⟨hh, rfl⟩) (fzV_noRefs q5), q4, by rw [hx]; exact q5⟩
    · obtain ⟨g, es, c, us, q1, q2, q3, q4, q5⟩ := h.maps.ok i b' hi hm
      exact ⟨g, es, c, us, by simp only [Sg.back, ht]; exact q1, ((h1.kept g (.inr (.inr ⟨i, q1⟩))).2.1).trans q2, q3.ext e, q4, q5⟩
  · simp only [Sg.back] at hm
    cases ht : tauN ids H.length i with
    | none =>
      rw [ht] at hm
      obtain ⟨d1, d2, d3, b, d4, d5⟩ := h.maps.dom i g hm
      exact ⟨d1, (h1.kept g (.inr (.inr ⟨i, hm⟩))).1, d3, b, by rw [hget, ht]; exact d4, d5⟩
    | some j =>
      rw [ht] at hm
      obtain ⟨d1, d2, d3, b, d4, d5⟩ := h1.maps.dom j g hm
      obtain ⟨e1, e2, e3, _⟩ := renBox_eqs (backN ids H.length) b
      exact ⟨d1, d2, fun hk => d3 (.inl hk), renBox (backN ids H.length) b, by rw [hget, ht]; simp [d4], by simpa only [mapB, e1, e2, e3] using d5⟩
  · simp only [Sg.back] at p1 p2
    cases t1 : tauN ids H.length i with
    | none =>
      rw [t1] at p1
      cases t2 : tauN ids H.length i' with
      | none => rw [t2] at p2; exact h.maps.apart i i' g p1 p2
      | some j' => rw [t2] at p2; exact absurd (.inr (.inr ⟨i, p1⟩)) (h1.maps.dom j' g p2).2.2.1
    | some j =>
      rw [t1] at p1
      cases t2 : tauN ids H.length i' with
      | none => rw [t2] at p2; exact absurd (.inr (.inr ⟨i', p2⟩)) (h1.maps.dom j g p1).2.2.1
      | some j' =>
        rw [t2] at p2
        have := h1.maps.apart j j' g p1 p2
        subst this
        exact tau_inj hs.nodup t1 t2

end

/-! ### such a call -/

/-- What a call comes to that is given boxes. -/
def HeapFn (P : Program) (E : Env) (f : FuncId) (as : List V) (H0 : Heap) (r : V) (H1 : Heap) : Prop :=
  ∀ (B : Nat) (w0 : Start) (σ : Sg) (w : World) (vs : List Value), (∀ id, σ.mp id = none) → Inv B w0 σ H0 w → GlobOK E σ w → Reps σ w as vs →
    Calls P f vs.toArray w fun e w' => ∃ u σ', e = .returned u ∧ Inv B w0 σ' H1 w' ∧ Ext σ w σ' w' ∧ Reps σ' w' [r] [u]

theorem pack_ok {B : Nat} {w0 : Start} {σ : Sg} {H H2 : Heap} {w : World} {fa : List (List Fk)} {fb : List Bf} {k : Nat} {args as : List V} {vs : List Value} {ids : List Nat} (h : Inv B w0 σ H w) (hr : Reps σ w args vs)
    (hp : pack fa fb k args H = some (ids, as, H2)) : SubOK ids H2 ∧ (∀ id ∈ refsFs as, id ∈ ids) ∧ H.length ≤ H2.length ∧ ∃ σ', Inv B w0 σ' H2 w ∧ Ext σ w σ' w ∧ Reps σ' w as vs := by
  unfold pack at hp
  split at hp
  · rename_i as' H1 ha
    split at hp
    · rename_i H2' ids' hh
      simp only [Option.some.injEq, Prod.mk.injEq] at hp
      obtain ⟨rfl, rfl, rfl⟩ := hp
      obtain ⟨k1, σ1, i1, e1, r1⟩ := prepA_ok h hr ha
      obtain ⟨q1, q2, q3, σ2, i2, e2⟩ := packH_ok 1000 i1 hh (by simp) (by simp)
      exact ⟨q3, fun id hid => q2 id (by simp [hid]), Nat.le_trans k1.len q1, σ2, i2, e1.trans e2, r1.ext e2⟩
    · cases hp
  · cases hp

theorem callH_ok {P : Program} {E : Env} {B : Nat} {w0 : Start} {σ : Sg} {H H' : Heap} {w : World} {f : FuncId} {hs : HSpec} {args : List V} {vs : List Value} {x : V} (hh : ∀ as H0 r H1, hs.run as H0 = some (r, H1) → HeapFn P E f as H0 r H1)
    (hc : callH hs args H = some (x, H')) (h : Inv B w0 σ H w) (hg : GlobOK E σ w) (hr : Reps σ w args vs) :
    Calls P f vs.toArray w fun e w' => ∃ u σ', e = .returned u ∧ Inv B w0 σ' H' w' ∧ Ext σ w σ' w' ∧ Reps σ' w' [x] [u] := by
  unfold callH at hc
  split at hc
  · rename_i ids as H2 hp
    split at hc
    · rename_i r H3 hrun
      split at hc
      · rename_i hlen
        simp only [Option.some.injEq, Prod.mk.injEq] at hc
        obtain ⟨rfl, rfl⟩ := hc
        obtain ⟨hs', hm, _, σ1, hI1, hE1, hr1⟩ := pack_ok h hr hp
        have hlt : ∀ id ∈ ids, id < H2.length := fun id hid => by
          obtain ⟨b, k1, _⟩ := hs'.at_ id hid
          grind
        have hsub : Inv B ⟨w, σ1.fz, outer σ1 H2 ids w0⟩ (σ1.ren ids) (subH H2 ids) w := by
          refine sub_ok hI1 hs' _ (Below.refl _ _) (fun b c hc _ => hc) (fun b hb => ?_)
          rcases hb with hb | ⟨id, L, bx, hid, m1, m2, hL, hgL⟩ | ⟨id, hid⟩
          · obtain ⟨k1, k2, k3, k4⟩ := hI1.kept b hb
            grind
          · obtain ⟨L', hL', hok⟩ := hI1.boxes id bx m1 m2
            rw [hL] at hL'; cases hL'
            refine ⟨(hok.block_lt hgL).2, rfl, fun i hi L' hL' hg' => ?_, fun c hc => hc⟩
            obtain ⟨bx', n1, n2, _⟩ := hs'.at_ i hi
            have := hI1.apart id i bx bx' L L' b m1 n1 m2 n2 hL hL' hgL hg'
            subst this
            exact hid hi
          · obtain ⟨d1, d2, d3, bm, d4, d5⟩ := hI1.maps.dom id b hid
            refine ⟨d2, rfl, fun i hi L' hL' hg' => ?_, fun c hc => hc⟩
            obtain ⟨bx', n1, n2, _⟩ := hs'.at_ i hi
            obtain ⟨L2, hL2, hok⟩ := hI1.boxes i bx' n1 n2
            rw [hL'] at hL2; cases hL2
            obtain ⟨es, c, hmm⟩ := hI1.maps.block hid
            exact hok.no_map hg' hmm
        have hg1 : GlobOK E (σ1.ren ids) w := (hg.ext hE1).bare (fun b c hh => ⟨hh, rfl⟩)
        have hnm : ∀ id, (σ1.ren ids).mp id = none := fun j => by
          cases hmm : (σ1.ren ids).mp j with
          | none => rfl
          | some g =>
            exfalso
            simp only [Sg.ren, Option.bind_eq_some_iff] at hmm
            obtain ⟨id, hj, hm2⟩ := hmm
            obtain ⟨b, k1, k2, _⟩ := hs'.at_ id (List.mem_of_getElem? hj)
            obtain ⟨_, _, _, b2, hb2, hmb⟩ := hI1.maps.dom id g hm2
            rw [k1] at hb2
            cases hb2
            have := mapB_dead hmb
            simp_all
        refine (hh _ _ _ _ hrun B _ (σ1.ren ids) w vs hnm hsub hg1 (sub_reps hr1 hm)).mono ?_
        rintro e w' ⟨u, σ2, rfl, hI2, hE2, hr2⟩
        obtain ⟨hI3, hE3⟩ := back_ok hI1 hs' hI2 hE2 hlen
        exact ⟨u, _, rfl, hI3, hE1.trans hE3, renF_reps hr2 (fun b c hh => ⟨hh, rfl⟩) (fun id _ => back_both hs'.nodup hlt id)⟩
      · cases hc
    · cases hc
  · cases hc

end Go.Proofs.YtpikcdlhgiooaaaGreat.Le

/-
  An evaluator for the model's code over pure values: calls.
-/
namespace Go.Proofs.YtpikcdlhgiooaaaGreat.Le
set_option linter.unusedVariables false
open Go.RowKit (Below)

/-- What a call with frozen arguments comes to, whatever memory there is. -/
def PureFn (P : Program) (E : Env) (f : FuncId) (as : List V) (r : V) : Prop :=
  ∀ (fz : Nat → Nat → Prop) (w : World) (vs : List Value), (∀ b c, fz b c → ∃ u, w.cell? ⟨b, c, none⟩ = some u) → GlobOK E (bare fz) w → Reps (bare fz) w as vs →
    Calls P f vs.toArray w fun e w' => ∃ u fz', e = .returned u ∧ Below w.heap.size w w' ∧ (∀ b c, fz b c → fz' b c) ∧ (∀ b c, fz' b c → b < w.heap.size → fz b c) ∧
      (∀ b c, fz' b c → ∃ u, w'.cell? ⟨b, c, none⟩ = some u) ∧ Reps (bare fz') w' [r] [u] ∧ noRef r = true

/-- The same of a function whose result is a slice with a row of its own. -/
def PureOwn (P : Program) (E : Env) (f : FuncId) (as : List V) (e sz : Nat) (xs : List V) : Prop :=
  ∀ (fz : Nat → Nat → Prop) (w : World) (vs : List Value), (∀ b c, fz b c → ∃ u, w.cell? ⟨b, c, none⟩ = some u) → GlobOK E (bare fz) w → Reps (bare fz) w as vs →
    Calls P f vs.toArray w fun en w' => ∃ u us fz', en = .returned u ∧ Below w.heap.size w w' ∧ (∀ b c, fz b c → fz' b c) ∧ (∀ b c, fz' b c → b < w.heap.size → fz b c) ∧
      (∀ b c, fz' b c → ∃ u, w'.cell? ⟨b, c, none⟩ = some u) ∧ Reps (bare fz') w' xs us ∧ (∀ x ∈ xs, fzV x = true) ∧ (∀ u ∈ us, u.cells.size = sz) ∧ (∀ u ∈ flat us, u.oneCell' = true) ∧
      ownR w' w.heap.size e sz u xs.length (flat us) ∧ (∀ g c, u.ownBlock = some g → ¬ fz' g c)

def Entered (P : Program) (f : FuncId) : Prop := ∃ fn, P.funcs[f]? = some fn ∧ fn.body.isNone = false ∧ (fn.name == "runtime.NumGoroutine") = false

/-- The functions that the environment answers for. -/
structure EnvFns (P : Program) (E : Env) : Prop where
  env : ∀ f F, E.env f = some F → Entered P f ∧ ∀ as r, noRefs as = true → F as = some r → match E.own f with | none => PureFn P E f as r | some e => ∀ sz xs, r = .sl false sz xs → PureOwn P E f as e sz xs
  hm : ∀ f key hs, E.hm f key = some hs → Entered P f ∧ ∀ as H0 r H1, hs.run as H0 = some (r, H1) → HeapFn P E f as H0 r H1
  maps : ∀ f, E.maps f = none

/-- Functions that make a map of functions. -/
structure Makers (P : Program) where
  tab : FuncId → Option (List (Int × FuncId))
  ok : ∀ f, tab f = none
def Makers.no (P : Program) : Makers P := ⟨fun _ => none, fun _ => rfl⟩

theorem Below.grownBy {w w' : World} (h : Below w.heap.size w w') : w.grownBy w' none := ⟨h.os, h.tape, h.output, h.size, fun k hk _ => h.block k hk⟩

theorem frzT_noRef {B w0 σ H w} (h : Inv B w0 σ H w) {x x' : V} {v : Value} (hr : Reps σ w [x] [v]) (hf : frzT H x = some x') : noRef x' = true := by
  unfold frzT at hf
  split at hf
  · rename_i vs
    cases hr with
    | tup h1 _ =>
      cases hl : frzAll H vs with
      | none => simp [hl] at hf
      | some vs' =>
        simp only [hl, Option.map_some, Option.some.injEq] at hf
        subst hf
        exact frzAll_noRef h h1 hl
  · exact frz_noRef h hr hf

section
variable {P : Program} {E : Env} {B : Nat} {w0 : Start} {σ : Sg} {H : Heap} {w : World} {f : FuncId}

/-- A pure call, seen from its caller. -/
theorem pure_calls {args as : List V} {r : V} {vs : List Value} (ts : List TypeId) (hp : PureFn P E f (retypeAll E.rows ts as) r) (hf : frzAll H args = some as) (hI : Inv B w0 σ H w) (hg : GlobOK E σ w) (hr : Reps σ w args vs) :
    Calls P f vs.toArray w fun e w' => ∃ u σ', e = .returned u ∧ Inv B w0 σ' (bump H (args.flatMap idsA)) w' ∧ Ext σ w σ' w' ∧ Reps σ' w' [r] [u] := by
  obtain ⟨hI1, hEx1⟩ := hI.freeze (args.flatMap idsA)
  have hr1 := retypeAll_reps E.rows ts (frzAll_reps hI hr hf (args.flatMap idsA) (fun i hi => hi))
  have hn : noRefs (retypeAll E.rows ts as) = true := by rw [retypeAll_noRef]; exact frzAll_noRef hI hr hf
  generalize hσ1 : σ.freeze H (args.flatMap idsA) = σ1 at hI1 hEx1 hr1
  have hbox1 : σ1.box = σ.box := by rw [← hσ1]; rfl
  have hfz0 : ∀ b c, σ1.fz b c → (bare σ1.fz).fz b c ∧ w.cell? ⟨b, c, none⟩ = w.cell? ⟨b, c, none⟩ := fun b c h => ⟨h, rfl⟩
  refine (hp σ1.fz w vs hI1.cells ((hg.ext hEx1).bare hfz0) (hr1.bare hfz0 hn)).mono ?_
  rintro e w' ⟨u, fz', rfl, hb, hmono, hold, hcells, hru, hnr⟩
  obtain ⟨hI2, hEx2⟩ := hI1.grown (Below.grownBy hb)
  have hcell : ∀ b c, σ1.fz b c → w'.cell? ⟨b, c, none⟩ = w.cell? ⟨b, c, none⟩ := fun b c h => (hEx2.fz b c h).2
  have hex : Ext σ1 w' ⟨σ1.box, fz', σ1.mp⟩ w' := ⟨fun id L hL => ⟨L, hL, rfl, .inl rfl⟩, fun b c h => ⟨hmono b c h, rfl⟩, Mapk.same rfl⟩
  refine ⟨u, ⟨σ1.box, fz', σ1.mp⟩, rfl, ⟨hI2.below, hI2.size, hI2.dom, fun id bx hb hl => ?_, hI2.apart, hcells, fun b c hc id bx L hb hl hL hown => ?_, hI2.low, fun b c hc hlt => ?_, fun b hb => ?_, hI2.maps.step hex rfl (fun _ _ _ => Iff.rfl) (Nat.le_refl _) fun _ _ _ => rfl⟩, hEx1.trans (hEx2.trans hex), ?_⟩
  · obtain ⟨L, hL, hok⟩ := hI2.boxes id bx hb hl
    obtain ⟨us, h1, h2, h3, h4⟩ := hok.reps
    exact ⟨L, hL, ⟨hok.tot, ⟨us, h1.ext hex, h2, h3, h4⟩, hok.nilp, hok.esz, hok.oks, hok.fzs⟩⟩
  · obtain ⟨L', hL', hok⟩ := hI1.boxes id bx hb hl
    rw [show σ1.box id = some L from hL] at hL'
    cases hL'
    exact hI1.floor b c (hold b c hc (hok.block_lt hown).2) id bx L hb hl hL hown
  · exact hI1.old b c (hold b c hc (Nat.lt_of_lt_of_le hlt hI1.size)) hlt
  · obtain ⟨k1, k2, k3, k4⟩ := hI2.kept b hb
    exact ⟨k1, k2, k3, fun c hc => k4 c (hold b c hc (hI1.kept b hb).1)⟩
  · exact hru.bare (fun b c h => ⟨h, rfl⟩) (by simp [noRefs, hnr])

theorem ownsRow_base {w : World} {b b' e sz n : Nat} {v : Value} {us : List Value} (h : ownR w b e sz v n us) (hb : b' ≤ b) : ownR w b' e sz v n us := by
  refine ⟨h.1, ?_⟩
  rcases h.2 with h | ⟨g, cap, cur, tg, h1, h2, h3⟩
  · exact .inl h
  · exact .inr ⟨g, cap, cur, tg, h1, by omega, h3⟩

/-- Such a call, seen from its caller: a new box. -/
theorem own_calls {args as : List V} {e sz : Nat} {xs : List V} {vs : List Value} (ts : List TypeId) (hp : PureOwn P E f (retypeAll E.rows ts as) e sz xs) (hf : frzAll H args = some as) (hI : Inv B w0 σ H w) (hg : GlobOK E σ w) (hr : Reps σ w args vs) :
    Calls P f vs.toArray w fun en w' => ∃ u σ', en = .returned u ∧ Inv B w0 σ' (place (bump H (args.flatMap idsA)) H.length (newBox true false e sz xs)) w' ∧ Ext σ w σ' w' ∧ Reps σ' w' [.lsl H.length 0 xs.length xs.length] [u] := by
  obtain ⟨hI1, hEx1⟩ := hI.freeze (args.flatMap idsA)
  have hr1 := retypeAll_reps E.rows ts (frzAll_reps hI hr hf (args.flatMap idsA) (fun i hi => hi))
  have hn : noRefs (retypeAll E.rows ts as) = true := by rw [retypeAll_noRef]; exact frzAll_noRef hI hr hf
  generalize hσ1 : σ.freeze H (args.flatMap idsA) = σ1 at hI1 hEx1 hr1
  have hfz0 : ∀ b c, σ1.fz b c → (bare σ1.fz).fz b c ∧ w.cell? ⟨b, c, none⟩ = w.cell? ⟨b, c, none⟩ := fun b c h => ⟨h, rfl⟩
  refine (hp σ1.fz w vs hI1.cells ((hg.ext hEx1).bare hfz0) (hr1.bare hfz0 hn)).mono ?_
  rintro en w' ⟨u, us, fz', rfl, hb, hmono, hold, hcells, hru, hfzv, hsz, hone, hown, hnfz⟩
  obtain ⟨hI2, hEx2⟩ := hI1.grown (Below.grownBy hb)
  have hex : Ext σ1 w' ⟨σ1.box, fz', σ1.mp⟩ w' := ⟨fun id L hL => ⟨L, hL, rfl, .inl rfl⟩, fun b c h => ⟨hmono b c h, rfl⟩, Mapk.same rfl⟩
  have hI3 : Inv B w0 ⟨σ1.box, fz', σ1.mp⟩ (bump H (args.flatMap idsA)) w' := by
    refine ⟨hI2.below, hI2.size, hI2.dom, fun id bx hb hl => ?_, hI2.apart, hcells, fun b c hc id bx L hb hl hL hown => ?_, hI2.low, fun b c hc hlt => ?_, fun b hb => ?_, hI2.maps.step hex rfl (fun _ _ _ => Iff.rfl) (Nat.le_refl _) fun _ _ _ => rfl⟩
    · obtain ⟨L, hL, hok⟩ := hI2.boxes id bx hb hl
      obtain ⟨us, h1, h2, h3, h4⟩ := hok.reps
      exact ⟨L, hL, ⟨hok.tot, ⟨us, h1.ext hex, h2, h3, h4⟩, hok.nilp, hok.esz, hok.oks, hok.fzs⟩⟩
    · obtain ⟨L', hL', hok⟩ := hI1.boxes id bx hb hl
      rw [show σ1.box id = some L from hL] at hL'
      cases hL'
      exact hI1.floor b c (hold b c hc (hok.block_lt hown).2) id bx L hb hl hL hown
    · exact hI1.old b c (hold b c hc (Nat.lt_of_lt_of_le hlt hI1.size)) hlt
    · obtain ⟨k1, k2, k3, k4⟩ := hI2.kept b hb
      exact ⟨k1, k2, k3, fun c hc => k4 c (hold b c hc (hI1.kept b hb).1)⟩
  have hblk : ∀ g, u.ownBlock = some g → w.heap.size ≤ g := by
    intro g hg'
    rcases hown.2 with ⟨hv, _⟩ | ⟨g', cap, cur, tg, hv, hle, _⟩
    · rw [hv] at hg'; cases hg'
    · rw [hv] at hg'
      simp only [Value.ownBlock, Option.some.injEq] at hg'
      omega
  have hnr : noRefs xs = true := fzV_noRefs hfzv
  have hk : freeB (bump H (args.flatMap idsA)) H.length = true := by
    have := freeB_end (bump H (args.flatMap idsA))
    rwa [bump_length] at this
  obtain ⟨hI4, hEx4⟩ := hI3.put_new hk (newBox true false e sz xs) rfl ⟨u, xs.length, sz⟩ (by simp [newBox])
    (fun id bx' L' g h1 h2 h3 h4 h5 => by
      obtain ⟨L'', hL'', hok⟩ := hI1.boxes id bx' h1 h2
      rw [show σ1.box id = some L' from h3] at hL''
      cases hL''
      have := (hok.block_lt h4).2
      grind)
    (fun g c h => hnfz g c h) (fun g h hk => by have := (hI1.kept g hk).1; have := hblk g h; omega)
    ⟨rfl, ⟨us, hru.bare (fun b c h => ⟨h, rfl⟩) hnr, hsz, hone, by simpa [newBox] using ownsRow_base hown hI1.size⟩, by simp [newBox], rfl, fzV_oks hfzv, fun _ x hx => fzV_noRef (hfzv x hx)⟩
  have hval : ∃ a n c, u = .slice a n c ∧ n = xs.length ∧ n ≤ c := by
    rcases hown.2 with ⟨hv, hn⟩ | ⟨g, cap, cur, tg, hv, _, _, _, hnc, _⟩
    · grind
    · grind
  obtain ⟨a, n, c, hv, hn', hnc⟩ := hval
  refine ⟨u, _, rfl, hI4, hEx1.trans (hEx2.trans (hex.trans hEx4)), .lsl (L := ⟨u, xs.length, sz⟩) (by simp [Sg.put]) (Nat.le_refl _) (fun _ => ⟨by omega, a, n, c, 0, hv, ?_, Nat.zero_le _, Nat.le_refl _, fun _ => rfl⟩) ⟨a, n, c, hv⟩ .nil⟩
  subst hn'
  rw [hv]
  cases a with
  | none => simp
  | some a => simp [Addr.add]

theorem body_ok (hE : EnvOK E) (hP : E.P = P) {call : CallF} (hcall : CallOK P E B w0 call) (hpure : CallsOK E call) {fn : Func} (hfn : E.func f = some fn) {n : Nat} {args : List V} {H' : Heap} {r : V} {vs : List Value}
    (hb : bodyD call n E f fn args H = some (r, H')) (hI : Inv B w0 σ H w) (hg : GlobOK E σ w) (hr : Reps σ w args vs) :
    Entered P f ∧ Calls P f vs.toArray w fun e w' => ∃ u σ', e = .returned u ∧ Inv B w0 σ' H' w' ∧ Ext σ w σ' w' ∧ Reps σ' w' [r] [u] := by
  unfold bodyD at hb
  cases hbody : fn.body with
  | none => simp [hbody] at hb
  | some c =>
    simp only [hbody] at hb
    obtain ⟨hf1, hf2⟩ := hE.func f fn hfn
    rw [hP] at hf1
    refine ⟨⟨fn, hf1, by simp [hbody], hf2⟩, calls_of_wp hf1 hbody ?_⟩
    have hcm := hE.calm f fn c hfn hbody
    have hslots : Reps σ w (args ++ List.replicate (fn.ntmps - args.length) vundef) (vs.toArray ++ Array.replicate (fn.ntmps - vs.toArray.size) undef).toList := by
      simp only [Array.toList_append, Array.toList_replicate, List.size_toArray]
      rw [← hr.length]
      exact hr.append (Reps.replicate _ (.no .nil))
    have hrel : Rel E B w0 σ ⟨args ++ List.replicate (fn.ntmps - args.length) vundef, H⟩ { tmps := vs.toArray ++ Array.replicate (fn.ntmps - vs.toArray.size) undef, defers := [] } w := ⟨hI, hg, hslots, rfl⟩
    have hfin : ∀ st, (resultsD E st.H st.s fn.results.toList).map (·, st.H) = some (r, H') → ∀ a' w' σ', Rel E B w0 σ' st a' w' → Ext σ w σ' w' →
        a'.defers = [] ∧ ∃ v, (results fn a'.tmps).run P w' = .ok v w' ∧ (fun e w' => ∃ u σ', e = Ending.returned u ∧ Inv B w0 σ' H' w' ∧ Ext σ w σ' w' ∧ Reps σ' w' [r] [u]) (.returned v) w' := by
      intro st hres a' w' σ' hr' he'
      cases hx : resultsD E st.H st.s fn.results.toList with
      | none => simp [hx] at hres
      | some x =>
        simp only [hx, Option.map_some, Option.some.injEq, Prod.mk.injEq] at hres
        obtain ⟨rfl, rfl⟩ := hres
        obtain ⟨u, hu, hur⟩ := results_ok (P := P) hE hP hr'.inv hr'.slots hx
        exact ⟨hr'.calm, u, hu, u, σ', rfl, hr'.inv, he', hur⟩
    split at hb
    · rename_i st hc
      exact code_ok hE hP hcall hpure (loop_ok hE hP hcall hpure n) c _ .normal st hcm hc _ σ _ w hrel (hfin st hb)
    · rename_i st hc
      exact code_ok hE hP hcall hpure (loop_ok hE hP hcall hpure n) c _ .ret st hcm hc _ σ _ w hrel (hfin st hb)
    · cases hb

/-- A body that runs on frozen arguments alone. -/
theorem body_pure (hE : EnvOK E) (hP : E.P = P) {call : CallF} (hcall : ∀ B w0, CallOK P E B w0 call) (hpure : CallsOK E call) {fn : Func} (hfn : E.func f = some fn) {n : Nat} {as : List V} {H' : Heap} {r0 r : V}
    (hb : bodyD call n E f fn as [] = some (r0, H')) (hfr : frzT H' r0 = some r) : PureFn P E f as r := by
  intro fz w vs hcells hg hr
  have hI : Inv w.heap.size (Start.of w fz) (bare fz) [] w := ⟨Below.refl _ w, Nat.le_refl _, fun id L hL => (by cases hL), fun id bx hb => by simp at hb, fun i j b1 b2 L1 L2 g h1 => by simp at h1, hcells,
    fun b c hc id bx L hb => by simp at hb, fun id bx hb => by simp at hb, fun b c hc _ => hc, fun b hb => hb.elim, ⟨fun id b hb => by simp at hb, fun id g h => (by cases h), fun id id' g h => (by cases h)⟩⟩
  obtain ⟨_, hc⟩ := body_ok hE hP (hcall w.heap.size (Start.of w fz)) hpure hfn hb hI hg hr
  refine hc.mono ?_
  rintro e w' ⟨u, σ', rfl, hI', hEx', hr'⟩
  obtain ⟨hI2, hEx2⟩ := hI'.freeze (idsT r0)
  have hr2 := frzT_reps hI' hr' hfr (idsT r0) (fun i hi => hi)
  have hn := frzT_noRef hI' hr' hfr
  refine ⟨u, (σ'.freeze H' (idsT r0)).fz, rfl, hI2.below, fun b c h => (hEx2.fz b c (hEx'.fz b c h).1).1, fun b c h hlt => hI2.old b c h hlt, hI2.cells, ?_, hn⟩
  exact hr2.bare (fun b c h => ⟨h, rfl⟩) (by simp [noRefs, hn])

theorem frzAll_length {H : Heap} : ∀ {xs ys : List V}, frzAll H xs = some ys → xs.length = ys.length := by
  intro xs
  induction xs with
  | nil => intro ys h; simp [frzAll] at h; subst h; rfl
  | cons x xs ih =>
    intro ys h
    simp only [frzAll] at h
    grind

theorem showP_sim {H H' : Heap} {x : V} (h : SimAt (refsV x) H H') : showP H' x = showP H x := by
  unfold showP
  split
  · rename_i id i off tot
    split
    · cases hb : boxAt H id tot with
      | none => rw [boxAt_none (h id (by simp [refsV, ref1])) hb]
      | some b =>
        obtain ⟨b', h1, h2⟩ := boxAt_low (h id (by simp [refsV, ref1])) hb
        obtain ⟨e1, e2, e3, e4, e5⟩ := low_eqs h2
        simp_all
    · rfl
  · exact frz_sim h

theorem showAll_sim {H H' : Heap} {xs : List V} (h : SimAt (xs.flatMap refsV) H H') : showAll H' xs = showAll H xs := by
  induction xs with
  | nil => rfl
  | cons x xs ih =>
    simp only [showAll]
    rw [showP_sim (fun i hi => h i (by simp [hi])), ih (fun i hi => h i (by rw [List.flatMap_cons]; exact List.mem_append_right _ hi))]

theorem callD_pure (n : Nat) : PureOK E (callD E n) := by
  intro f hp args H v H1 h
  cases n with
  | zero => cases h
  | succ n =>
    unfold callD at h
    cases hmk : E.maps f with
    | some l =>
      simp only [hmk] at h
      split at h
      · rename_i x
        split at h
        · rename_i hi
          simp only [Option.some.injEq, Prod.mk.injEq] at h
          obtain ⟨rfl, rfl⟩ := h
          have hi' : [x].flatMap idsA = [] := by simpa using hi
          refine ⟨by rw [hi']; rfl, fun H' _ => ?_⟩
          unfold callD
          simp only [hmk]
          rw [if_pos hi, hi']
          rfl
        · cases h
      · cases h
    | none =>
    simp only [hmk] at h
    have hp : ((E.pure f || (E.env f).isSome) && (E.own f).isNone) = true := by simpa [valF, hmk] using hp
    cases henv : E.env f with
    | some F =>
      simp only [henv] at h
      by_cases hq : args.any isPtrV = true
      · rw [if_pos hq] at h
        have ho : E.own f = none := by simpa using (Bool.and_eq_true_iff.1 hp).2
        cases hf : showAll H args with
        | none => simp [hf, ho] at h
        | some as =>
          simp only [hf, ho] at h
          cases hF : F (retypeAll E.rows (E.par f) as) with
          | none => simp [hF] at h
          | some r =>
            simp only [hF] at h
            split at h
            · rename_i hfl
              simp only [Option.some.injEq, Prod.mk.injEq] at h
              refine ⟨h.2.symm, fun H' hs => ?_⟩
              unfold callD
              simp only [hmk, henv]
              rw [if_pos hq, showAll_sim hs, hf]
              simp only [ho, hF]
              rw [if_pos hfl, h.1]
            · cases h
      rw [if_neg hq] at h
      cases hf : frzAll H args with
      | none => simp [hf] at h
      | some as =>
        have ho : E.own f = none := by simpa using (Bool.and_eq_true_iff.1 hp).2
        simp only [hf, ho] at h
        cases hF : F (retypeAll E.rows (E.par f) as) with
        | none => simp [hF] at h
        | some r =>
          simp only [hF, Option.map_some, Option.some.injEq, Prod.mk.injEq] at h
          refine ⟨h.2.symm, fun H' hs => ?_⟩
          unfold callD
          simp only [hmk, henv]
          rw [if_neg hq, frzAll_sim hs, hf]
          simp only [ho, hF, Option.map_some, h.1]
    | none =>
      have hpf : E.pure f = true := by simpa [henv] using (Bool.and_eq_true_iff.1 hp).1
      simp only [henv, hpf, if_true] at h
      cases hfn : E.func f with
      | none => simp [hfn] at h
      | some fn =>
        simp only [hfn] at h
        cases hf : frzAll H args with
        | none => simp [hf] at h
        | some as =>
          simp only [hf] at h
          cases hbd : bodyD (callD E n) n E f fn as [] with
          | none => simp [hbd] at h
          | some rr =>
            obtain ⟨r0, H2⟩ := rr
            simp only [hbd] at h
            cases hft : frzT H2 r0 with
            | none => simp [hft] at h
            | some r =>
              simp only [hft, Option.map_some, Option.some.injEq, Prod.mk.injEq] at h
              refine ⟨h.2.symm, fun H' hs => ?_⟩
              unfold callD
              simp only [hmk, henv, hpf, if_true, hfn]
              rw [frzAll_sim hs, hf]
              simp_all

theorem bump_bump (H : Heap) (a b : List Nat) : bump (bump H a) b = bump H (a ++ b) := by
  induction a generalizing H with
  | nil => rfl
  | cons i a ih => simp only [bump, List.cons_append, ih]

theorem prep1_free {f : Fk} {H H1 : Heap} {x y : V} (h : prep1 f H x = some (y, H1)) (hn : refsF y = []) : ∃ ids, (∀ i ∈ ids, i ∈ ref1 x) ∧ H1 = bump H ids ∧ ∀ H', SimAt (ref1 x) H H' → prep1 f H' x = some (y, bump H' ids) := by
  cases f with
  | s e sz =>
    simp only [prep1] at h
    cases hf : frz0 H x with
    | none => simp [hf] at h
    | some w =>
      simp only [hf, Option.map_some, Option.some.injEq, Prod.mk.injEq] at h
      obtain ⟨rfl, rfl⟩ := h
      exact ⟨ids1 x, fun i hi => ids1_ref hi, rfl, fun H' hs => by simp only [prep1, frz0_sim hs, hf, Option.map_some]⟩
  | own e sz =>
    exfalso
    simp only [prep1, prepO] at h
    split at h
    · simp only [Option.some.injEq, Prod.mk.injEq] at h
      rw [← h.1] at hn
      simp [refsF] at hn
    · simp only [Option.some.injEq, Prod.mk.injEq] at h
      rw [← h.1] at hn
      simp [refsF] at hn
    · split at h
      · simp only [Option.some.injEq, Prod.mk.injEq] at h
        rw [← h.1] at hn
        simp [refsF] at hn
      · cases h
    · cases h
  | keep =>
    simp only [prep1, Option.some.injEq, Prod.mk.injEq] at h
    obtain ⟨rfl, rfl⟩ := h
    exact ⟨[], by simp, rfl, fun H' _ => rfl⟩
  | drop =>
    simp only [prep1, Option.some.injEq, Prod.mk.injEq] at h
    obtain ⟨rfl, rfl⟩ := h
    exact ⟨[], by simp, rfl, fun H' _ => rfl⟩

theorem prepL_free : ∀ {fl : List Fk} {H H1 : Heap} {xs ys : List V}, prepL fl H xs = some (ys, H1) → refsFs ys = [] → ∃ ids, (∀ i ∈ ids, i ∈ xs.flatMap ref1) ∧ H1 = bump H ids ∧ ∀ H', SimAt (xs.flatMap ref1) H H' → prepL fl H' xs = some (ys, bump H' ids) := by
  intro fl
  induction fl with
  | nil =>
    intro H H1 xs ys h hn
    cases xs with
    | nil =>
      simp only [prepL, Option.some.injEq, Prod.mk.injEq] at h
      obtain ⟨rfl, rfl⟩ := h
      exact ⟨[], by simp, rfl, fun H' _ => rfl⟩
    | cons => simp [prepL] at h
  | cons f fl ih =>
    intro H H1 xs ys h hn
    cases xs with
    | nil => simp [prepL] at h
    | cons x xs =>
      simp only [prepL] at h
      cases h1 : prep1 f H x with
      | none => simp [h1] at h
      | some r =>
        obtain ⟨y, Ha⟩ := r
        simp only [h1] at h
        cases h2 : prepL fl Ha xs with
        | none => simp [h2] at h
        | some q =>
          obtain ⟨zs, Hb⟩ := q
          simp only [h2, Option.some.injEq, Prod.mk.injEq] at h
          obtain ⟨rfl, rfl⟩ := h
          simp only [refsFs, List.append_eq_nil_iff] at hn
          obtain ⟨i1, a1, rfl, a3⟩ := prep1_free h1 hn.1
          obtain ⟨i2, b1, rfl, b3⟩ := ih h2 hn.2
          refine ⟨i1 ++ i2, fun i hi => ?_, bump_bump H i1 i2, fun H' hs => ?_⟩
          · grind
          · have hs1 : SimAt (ref1 x) H H' := fun i hi => hs i (by simp_all)
            have hs2 : SimAt (xs.flatMap ref1) (bump H i1) (bump H' i1) := (sim_bump _ i1 H).symm.trans (SimAt.trans (fun i hi => hs i (by simp_all)) (sim_bump _ i1 H'))
            simp only [prepL, a3 H' hs1, b3 _ hs2, bump_bump]

theorem prepV_free {fl : List Fk} {H H1 : Heap} {x y : V} (h : prepV fl H x = some (y, H1)) (hn : refsF y = []) : ∃ ids, (∀ i ∈ ids, i ∈ refsV x) ∧ H1 = bump H ids ∧ ∀ H', SimAt (refsV x) H H' → prepV fl H' x = some (y, bump H' ids) := by
  unfold prepV at h
  split at h
  · rename_i cs
    cases h1 : prepL fl H cs with
    | none => simp [h1] at h
    | some r =>
      obtain ⟨ys, Ha⟩ := r
      simp only [h1, Option.map_some, Option.some.injEq, Prod.mk.injEq] at h
      obtain ⟨rfl, rfl⟩ := h
      obtain ⟨ids, a1, a2, a3⟩ := prepL_free h1 (by simpa [refsF] using hn)
      exact ⟨ids, a1, a2, fun H' hs => by simp only [prepV, a3 H' hs, Option.map_some]⟩
  · rename_i hne
    have hr : ∀ i ∈ ref1 x, i ∈ refsV x := fun i hi => by
      cases x with
      | fn f a b => simp [ref1] at hi
      | agg cs => simp_all
      | _ => exact hi
    split at h
    · rename_i f
      obtain ⟨ids, a1, a2, a3⟩ := prep1_free h hn
      refine ⟨ids, fun i hi => hr i (a1 i hi), a2, fun H' hs => ?_⟩
      unfold prepV
      split
      · simp_all
      · exact a3 H' (fun i hi => hs i (hr i hi))
    · cases h

theorem prepA_free : ∀ {fa : List (List Fk)} {H H1 : Heap} {xs ys : List V}, prepA fa H xs = some (ys, H1) → refsFs ys = [] → ∃ ids, (∀ i ∈ ids, i ∈ xs.flatMap refsV) ∧ H1 = bump H ids ∧ ∀ H', SimAt (xs.flatMap refsV) H H' → prepA fa H' xs = some (ys, bump H' ids) := by
  intro fl
  induction fl with
  | nil =>
    intro H H1 xs ys h hn
    cases xs with
    | nil =>
      simp only [prepA, Option.some.injEq, Prod.mk.injEq] at h
      obtain ⟨rfl, rfl⟩ := h
      exact ⟨[], by simp, rfl, fun H' _ => rfl⟩
    | cons => simp [prepA] at h
  | cons f fl ih =>
    intro H H1 xs ys h hn
    cases xs with
    | nil => simp [prepA] at h
    | cons x xs =>
      simp only [prepA] at h
      cases h1 : prepV f H x with
      | none => simp [h1] at h
      | some r =>
        obtain ⟨y, Ha⟩ := r
        simp only [h1] at h
        cases h2 : prepA fl Ha xs with
        | none => simp [h2] at h
        | some q =>
          obtain ⟨zs, Hb⟩ := q
          simp only [h2, Option.some.injEq, Prod.mk.injEq] at h
          obtain ⟨rfl, rfl⟩ := h
          simp only [refsFs, List.append_eq_nil_iff] at hn
          obtain ⟨i1, a1, rfl, a3⟩ := prepV_free h1 hn.1
          obtain ⟨i2, b1, rfl, b3⟩ := ih h2 hn.2
          refine ⟨i1 ++ i2, fun i hi => ?_, bump_bump H i1 i2, fun H' hs => ?_⟩
          · grind
          · have hs1 : SimAt (refsV x) H H' := fun i hi => hs i (by simp_all)
            have hs2 : SimAt (xs.flatMap refsV) (bump H i1) (bump H' i1) := (sim_bump _ i1 H).symm.trans (SimAt.trans (fun i hi => hs i (by simp_all)) (sim_bump _ i1 H'))
            simp only [prepA, a3 H' hs1, b3 _ hs2, bump_bump]

theorem packH_none {n : Nat} {H H2 : Heap} {todo ids : List Nat} (h : packH n [] H todo [] = some (H2, ids)) : todo = [] ∧ H2 = H ∧ ids = [] := by
  cases n with
  | zero => cases h
  | succ n =>
    cases todo with
    | nil =>
      simp only [packH, Option.some.injEq, Prod.mk.injEq] at h
      simp_all
    | cons i todo =>
      exfalso
      unfold packH at h
      simp_all

theorem callH_free {hs : HSpec} (hfb : hs.fb = []) {args : List V} {H H1 : Heap} {v : V} (h : callH hs args H = some (v, H1)) :
    ∃ ids nbs, (∀ i ∈ ids, i ∈ args.flatMap refsV) ∧ H1 = bump H ids ++ nbs ∧ ∀ H', H'.length = H.length → SimAt (args.flatMap refsV) H H' → callH hs args H' = some (v, bump H' ids ++ nbs) := by
  unfold callH at h
  unfold pack at h
  rw [hfb] at h
  cases hp : prepA hs.fa H args with
  | none => simp [hp] at h
  | some r =>
    obtain ⟨as, Ha⟩ := r
    simp only [hp] at h
    cases hk : packH 1000 [] Ha (List.range 0 ++ refsFs as) [] with
    | none => rw [hk] at h; cases h
    | some q =>
      obtain ⟨H2, ids0⟩ := q
      obtain ⟨hr, rfl, rfl⟩ := packH_none hk
      simp only [List.range_zero, List.nil_append] at hr
      obtain ⟨ids, a1, rfl, a3⟩ := prepA_free hp hr
      simp only [hk] at h
      cases hrun : hs.run (renFs (([] : List Nat).idxOf ·) as) (subH (bump H ids) []) with
      | none => rw [hrun] at h; cases h
      | some rr =>
        obtain ⟨r, H3⟩ := rr
        simp only [hrun, List.length_nil, Nat.zero_le, if_true, Option.some.injEq, Prod.mk.injEq, bump_length] at h
        obtain ⟨rfl, rfl⟩ := h
        refine ⟨ids, H3.map (renBox (backN [] H.length)), a1, by simp only [putBack, putB, bump_length], fun H' hl hs' => ?_⟩
        unfold callH pack
        rw [hfb, a3 H' hs']
        simp only [List.range_zero, List.nil_append, hr, packH]
        have hsub : subH (bump H' ids) [] = subH (bump H ids) [] := rfl
        simp only [hsub, hrun, List.length_nil, Nat.zero_le, if_true, bump_length, hl, putBack, putB]

theorem callD_free (n : Nat) : FreeOK E (callD E n) := by
  intro f hf args H v H1 h
  cases n with
  | zero => cases h
  | succ n =>
    have hf0 := hf
    unfold freeF at hf
    simp only [Bool.and_eq_true, Option.isNone_iff_eq_none, Bool.not_eq_true'] at hf
    obtain ⟨⟨⟨h0, h1⟩, h2⟩, h3⟩ := hf
    have hrw := freeF_row hf0
    cases hh : E.hm f [] with
    | none => rw [hh] at h3; cases h3
    | some hs =>
      rw [hh] at h3
      have hfb : hs.fb = [] := by simpa using h3
      have he : ∀ H, callD E (n + 1) f args H = callH hs args H := fun H => by
        unfold callD
        simp_all
      rw [he] at h
      obtain ⟨ids, nbs, a1, a2, a3⟩ := callH_free hfb h
      grind

theorem frz0_set {H : Heap} {x : V} {n : Nat} {b0 b : Box} (h0 : H[n]? = some b0) (hr0 : b0.row = false) (hr : b.row = false) : frz0 (H.set n b) x = frz0 H x := by
  have hn := (List.getElem?_eq_some_iff.1 h0).1
  cases x with
  | lsl id off len tot =>
    simp only [frz0, boxAt]
    by_cases he : n = id
    · subst he
      rw [List.getElem?_set_self hn, h0]
      simp only []
      grind
    · rw [List.getElem?_set_ne he]
  | fn f a c => cases a <;> cases c <;> rfl
  | ifc t v => cases v <;> rfl
  | _ => rfl

theorem frz0_notin {H : Heap} {x y : V} {n : Nat} {b0 : Box} (h0 : H[n]? = some b0) (hr0 : b0.row = false) (h : frz0 H x = some y) : n ∉ ids1 x := by
  cases x with
  | lsl id off len tot =>
    simp only [frz0, boxAt] at h
    simp only [ids1, List.mem_singleton]
    intro he
    subst he
    rw [h0] at h
    grind
  | _ => simp [ids1]

theorem bump_set {ids : List Nat} {H : Heap} {n : Nat} {b : Box} (h : n ∉ ids) : bump (H.set n b) ids = (bump H ids).set n b := by
  apply List.ext_getElem?
  intro i
  rw [bump_get, List.getElem?_set, List.getElem?_set, bump_get, bump_length]
  grind

theorem bump_at {ids : List Nat} {H : Heap} {n : Nat} (h : n ∉ ids) : (bump H ids)[n]? = H[n]? := by
  rw [bump_get]
  grind

theorem prep1_set {f : Fk} {H H1 : Heap} {x y : V} {n : Nat} {b0 b : Box} (h0 : H[n]? = some b0) (hr0 : b0.row = false) (hr : b.row = false) (h : prep1 f H x = some (y, H1)) :
    H1[n]? = some b0 ∧ prep1 f (H.set n b) x = some (y, H1.set n b) := by
  have hn := (List.getElem?_eq_some_iff.1 h0).1
  cases f with
  | s e sz =>
    simp only [prep1] at h ⊢
    rw [frz0_set h0 hr0 hr]
    cases hf : frz0 H x with
    | none => simp [hf] at h
    | some z =>
      have hni := frz0_notin h0 hr0 hf
      simp only [hf, Option.map_some, Option.some.injEq, Prod.mk.injEq] at h ⊢
      obtain ⟨rfl, rfl⟩ := h
      exact ⟨by rw [bump_at hni, h0], rfl, bump_set hni⟩
  | own e sz =>
    simp only [prep1] at h ⊢
    unfold prepO at *
    split at h
    · simp only [Option.some.injEq, Prod.mk.injEq] at h ⊢
      obtain ⟨rfl, rfl⟩ := h
      refine ⟨by rw [List.getElem?_append_left hn, h0], by rw [List.length_set], ?_⟩
      rw [List.set_append_left _ _ hn]
    · simp only [Option.some.injEq, Prod.mk.injEq] at h ⊢
      obtain ⟨rfl, rfl⟩ := h
      refine ⟨by rw [List.getElem?_append_left hn, h0], by rw [List.length_set], ?_⟩
      rw [List.set_append_left _ _ hn]
    · split at h
      · rename_i hz
        simp only [Option.some.injEq, Prod.mk.injEq] at h ⊢
        obtain ⟨rfl, rfl⟩ := h
        exact ⟨h0, by rw [if_pos hz]⟩
      · cases h
    · cases h
  | keep => simp only [prep1, Option.some.injEq, Prod.mk.injEq] at h ⊢; obtain ⟨rfl, rfl⟩ := h; exact ⟨h0, rfl, rfl⟩
  | drop => simp only [prep1, Option.some.injEq, Prod.mk.injEq] at h ⊢; obtain ⟨rfl, rfl⟩ := h; exact ⟨h0, rfl, rfl⟩

theorem prepL_set {n : Nat} {b0 b : Box} (hr0 : b0.row = false) (hr : b.row = false) : ∀ {fl : List Fk} {H H1 : Heap} {xs ys : List V}, H[n]? = some b0 → prepL fl H xs = some (ys, H1) →
    H1[n]? = some b0 ∧ prepL fl (H.set n b) xs = some (ys, H1.set n b) := by
  intro fl
  induction fl with
  | nil =>
    intro H H1 xs ys h0 h
    cases xs with
    | nil => simp only [prepL, Option.some.injEq, Prod.mk.injEq] at h ⊢; obtain ⟨rfl, rfl⟩ := h; exact ⟨h0, rfl, rfl⟩
    | cons => simp [prepL] at h
  | cons f fl ih =>
    intro H H1 xs ys h0 h
    cases xs with
    | nil => simp [prepL] at h
    | cons x xs =>
      simp only [prepL] at h ⊢
      cases h1 : prep1 f H x with
      | none => simp [h1] at h
      | some r =>
        obtain ⟨y, Ha⟩ := r
        obtain ⟨a1, a2⟩ := prep1_set h0 hr0 hr h1
        simp only [h1] at h
        rw [a2]
        cases h2 : prepL fl Ha xs with
        | none => simp [h2] at h
        | some q =>
          obtain ⟨zs, Hb⟩ := q
          obtain ⟨b1, b2⟩ := ih a1 h2
          simp only [h2, Option.some.injEq, Prod.mk.injEq] at h
          obtain ⟨rfl, rfl⟩ := h
          simp only [b2]
          exact ⟨b1, trivial⟩

theorem prepV_set {fl : List Fk} {H H1 : Heap} {x y : V} {n : Nat} {b0 b : Box} (h0 : H[n]? = some b0) (hr0 : b0.row = false) (hr : b.row = false) (h : prepV fl H x = some (y, H1)) :
    H1[n]? = some b0 ∧ prepV fl (H.set n b) x = some (y, H1.set n b) := by
  unfold prepV at *
  split at h
  · rename_i cs
    cases h1 : prepL fl H cs with
    | none => simp [h1] at h
    | some r =>
      obtain ⟨ys, Ha⟩ := r
      obtain ⟨a1, a2⟩ := prepL_set hr0 hr h0 h1
      simp only [h1, Option.map_some, Option.some.injEq, Prod.mk.injEq] at h
      obtain ⟨rfl, rfl⟩ := h
      exact ⟨a1, by simp only [a2, Option.map_some]⟩
  · split at h
    · obtain ⟨a1, a2⟩ := prep1_set h0 hr0 hr h
      exact ⟨a1, a2⟩
    · cases h

theorem prepA_set {n : Nat} {b0 b : Box} (hr0 : b0.row = false) (hr : b.row = false) : ∀ {fa : List (List Fk)} {H H1 : Heap} {xs ys : List V}, H[n]? = some b0 → prepA fa H xs = some (ys, H1) →
    H1[n]? = some b0 ∧ prepA fa (H.set n b) xs = some (ys, H1.set n b) := by
  intro fl
  induction fl with
  | nil =>
    intro H H1 xs ys h0 h
    cases xs with
    | nil => simp only [prepA, Option.some.injEq, Prod.mk.injEq] at h ⊢; obtain ⟨rfl, rfl⟩ := h; exact ⟨h0, rfl, rfl⟩
    | cons => simp [prepA] at h
  | cons f fl ih =>
    intro H H1 xs ys h0 h
    cases xs with
    | nil => simp [prepA] at h
    | cons x xs =>
      simp only [prepA] at h ⊢
      cases h1 : prepV f H x with
      | none => simp [h1] at h
      | some r =>
        obtain ⟨y, Ha⟩ := r
        obtain ⟨a1, a2⟩ := prepV_set h0 hr0 hr h1
        simp only [h1] at h
        rw [a2]
        cases h2 : prepA fl Ha xs with
        | none => simp [h2] at h
        | some q =>
          obtain ⟨zs, Hb⟩ := q
          obtain ⟨b1, b2⟩ := ih a1 h2
          simp only [h2, Option.some.injEq, Prod.mk.injEq] at h
          obtain ⟨rfl, rfl⟩ := h
          simp only [b2]
          exact ⟨b1, trivial⟩

theorem packH_set {n : Nat} {b0 b : Box} (hr0 : b0.row = false) (hr : b.row = false) : ∀ {k : Nat} {fb : List Bf} {H H2 : Heap} {todo seen ids : List Nat}, fb.all Bf.isRow = true → n ∉ seen → H[n]? = some b0 → packH k fb H todo seen = some (H2, ids) →
    H2[n]? = some b0 ∧ n ∉ ids ∧ packH k fb (H.set n b) todo seen = some (H2.set n b, ids) := by
  intro k
  induction k with
  | zero => intro fb H H2 todo seen ids _ _ _ h; cases h
  | succ k ih =>
    intro fb H H2 todo seen ids hfb hs h0 h
    have hn := (List.getElem?_eq_some_iff.1 h0).1
    cases todo with
    | nil =>
      simp only [packH, Option.some.injEq, Prod.mk.injEq] at h ⊢
      obtain ⟨rfl, rfl⟩ := h
      exact ⟨h0, hs, rfl, rfl⟩
    | cons id todo =>
      unfold packH at h ⊢
      by_cases hc : seen.contains id = true
      · rw [if_pos hc] at h ⊢
        exact ih hfb hs h0 h
      · rw [if_neg hc] at h ⊢
        cases hb : H[id]? with
        | none => simp [hb] at h
        | some bx =>
          cases fb with
          | nil => simp [hb] at h
          | cons f fb =>
            simp only [List.all_cons, Bool.and_eq_true] at hfb
            cases f with
            | var fl => simp [Bf.isRow] at hfb
            | row fresh =>
              simp only [hb] at h
              split at h
              · rename_i hl
                have hne : n ≠ id := fun e => by
                  subst e
                  rw [h0] at hb
                  cases hb
                  simp [hr0] at hl
                rw [List.getElem?_set_ne hne, hb]
                simp only [hl, if_true]
                have hs' : n ∉ seen ++ [id] := by simp [hs, hne]
                cases fresh with
                | true => exact ih hfb.2 hs' h0 h
                | false =>
                  have hni : n ∉ [id] := by simp [hne]
                  simp only [Bool.false_eq_true, if_false] at h ⊢
                  rw [bump_set hni]
                  exact ih hfb.2 hs' (by rw [bump_at hni, h0]) h
              · cases h

theorem subH_set {H : Heap} {ids : List Nat} {n : Nat} {b : Box} (h : n ∉ ids) : subH (H.set n b) ids = subH H ids := by
  unfold subH
  apply List.map_congr_left
  intro i hi
  rw [List.getElem?_set_ne (fun e => h (by rw [e]; exact hi))]

theorem putB_set {n : Nat} {b : Box} : ∀ {ids : List Nat} {H bs : Heap}, n < H.length → n ∉ ids → (putB H ids bs)[n]? = H[n]? ∧ putB (H.set n b) ids bs = (putB H ids bs).set n b := by
  intro ids
  induction ids with
  | nil => intro H bs hn _; simp only [putB]; exact ⟨List.getElem?_append_left hn, (List.set_append_left _ _ hn).symm⟩
  | cons i ids ih =>
    intro H bs hn hi
    simp only [List.mem_cons, not_or] at hi
    cases bs with
    | nil => exact ⟨rfl, rfl⟩
    | cons c bs =>
      simp only [putB]
      rw [List.set_comm _ _ hi.1]
      obtain ⟨a1, a2⟩ := ih (H := H.set i c) (bs := bs) (by rw [List.length_set]; exact hn) hi.2
      exact ⟨by rw [a1, List.getElem?_set_ne (Ne.symm hi.1)], a2⟩

theorem callH_set {hs : HSpec} (hfb : hs.fb.all Bf.isRow = true) {args : List V} {H H1 : Heap} {v : V} {n : Nat} {b0 b : Box} (h0 : H[n]? = some b0) (hr0 : b0.row = false) (hr : b.row = false) (h : callH hs args H = some (v, H1)) :
    H1[n]? = some b0 ∧ callH hs args (H.set n b) = some (v, H1.set n b) := by
  unfold callH pack at *
  cases hp : prepA hs.fa H args with
  | none => simp [hp] at h
  | some r =>
    obtain ⟨as, Ha⟩ := r
    obtain ⟨a1, a2⟩ := prepA_set hr0 hr h0 hp
    simp only [hp] at h
    rw [a2]
    simp only
    cases hk : packH 1000 hs.fb Ha (List.range 0 ++ refsFs as) [] with
    | none => rw [hk] at h; cases h
    | some q =>
      obtain ⟨H2, ids⟩ := q
      obtain ⟨c1, c2, c3⟩ := packH_set hr0 hr hfb (by simp) a1 hk
      have hl := (List.getElem?_eq_some_iff.1 c1).1
      rw [hk] at h
      simp only at h
      rw [c3]
      simp only [subH_set c2]
      cases hrun : hs.run (renFs (ids.idxOf ·) as) (subH H2 ids) with
      | none => rw [hrun] at h; cases h
      | some rr =>
        obtain ⟨r, H3⟩ := rr
        simp only [hrun] at h
        split at h
        · rename_i hlen
          simp only [Option.some.injEq, Prod.mk.injEq] at h
          obtain ⟨rfl, rfl⟩ := h
          simp only [if_pos hlen, List.length_set, putBack]
          obtain ⟨d1, d2⟩ := putB_set (b := b) (ids := ids) (H := H2) (bs := H3.map (renBox (backN ids H2.length))) hl c2
          exact ⟨by rw [d1, c1], by rw [d2]⟩
        · cases h

theorem callD_row (n : Nat) : RowOK E (callD E n) := by
  intro f hv hfr hf args H v H1 i b0 b h h0 hr0 hr
  cases n with
  | zero => cases h
  | succ n =>
    have hf0 := hf
    unfold rowF at hf
    simp only [Bool.and_eq_true, Option.isNone_iff_eq_none, Bool.not_eq_true'] at hf
    obtain ⟨⟨⟨h0', h1⟩, h2⟩, h3⟩ := hf
    cases hh : E.hm f [] with
    | none => rw [hh] at h3; cases h3
    | some hs =>
      rw [hh] at h3
      have he : ∀ H, callD E (n + 1) f args H = callH hs args H := fun H => by
        unfold callD
        simp_all
      rw [he] at h ⊢
      exact callH_set h3 h0 hr0 hr h

/-! ### no box is taken away -/
theorem opsD_len {call : CallF} (hl : LenOK call) {ops : Array Oper} : ∀ (is : List Nat) (st st' : St), opsD call E ops is st = some st' → st.H.length ≤ st'.H.length
  | [], st, st', h => by cases h; exact Nat.le_refl _
  | i :: is, st, st', h => by
    unfold opsD at h
    cases h1 : stepD call E ops i st with
    | none => simp [h1] at h
    | some st1 =>
      simp only [h1] at h
      exact Nat.le_trans (stepAt_len hl h1) (opsD_len hl is st1 st' h)
theorem stepsR_len {call : CallF} (hl : LenOK call) {ops : Array Oper} {ms lt s0 base m} : ∀ (is : List Nat) (st st' : St), stepsR call E ops ms lt s0 base m is st = some st' → st.H.length ≤ st'.H.length
  | [], st, st', h => by cases h; exact Nat.le_refl _
  | i :: is, st, st', h => by
    unfold stepsR at h
    cases h1 : stepR call E ops ms lt s0 base m i st with
    | none => simp [h1] at h
    | some st1 =>
      simp only [h1] at h
      exact Nat.le_trans (stepR_len hl h1) (stepsR_len hl is st1 st' h)
theorem codeD_len {call : CallF} (hl : LenOK call) {f : FuncId} {lp : Code → St → Option (Ex × St)} (hlp : ∀ b st ex st', lp b st = some (ex, st') → st.H.length ≤ st'.H.length) :
    ∀ (c : Code) (st : St) (ex : Ex) (st' : St), codeD call lp E f c st = some (ex, st') → st.H.length ≤ st'.H.length := by
  intro c
  induction c with
  | skip => intro st ex st' h; simp only [codeD, Option.some.injEq, Prod.mk.injEq] at h; rw [← h.2]; exact Nat.le_refl _
  | label l => intro st ex st' h; simp only [codeD, Option.some.injEq, Prod.mk.injEq] at h; rw [← h.2]; exact Nat.le_refl _
  | exit l => intro st ex st' h; simp only [codeD, Option.some.injEq, Prod.mk.injEq] at h; rw [← h.2]; exact Nat.le_refl _
  | ret => intro st ex st' h; simp only [codeD, Option.some.injEq, Prod.mk.injEq] at h; rw [← h.2]; exact Nat.le_refl _
  | region id ops d =>
    intro st ex st' h
    cases d with
    | false =>
      simp only [codeD] at h
      obtain ⟨st1, h1, h2⟩ := Option.map_eq_some_iff.1 h
      simp only [Prod.mk.injEq] at h2
      rw [← h2.2]
      exact opsD_len hl _ _ _ h1
    | true =>
      simp only [codeD] at h
      split at h
      · obtain ⟨st1, h1, h2⟩ := Option.map_eq_some_iff.1 h
        simp only [Prod.mk.injEq] at h2
        rw [← h2.2]
        unfold drawD at h1
        have := stepsR_len hl _ _ _ h1
        simp only [List.length_append] at this
        omega
      · cases h
  | seq a b iha ihb =>
    intro st ex st' h
    simp only [codeD] at h
    split at h
    · rename_i st1 h1
      exact Nat.le_trans (iha _ _ _ h1) (ihb _ _ _ h)
    · exact iha _ _ _ h
  | cond c a b iha ihb =>
    intro st ex st' h
    simp only [codeD] at h
    split at h
    · split at h
      · exact iha _ _ _ h
      · exact ihb _ _ _ h
    · cases h
  | block id b ih =>
    intro st ex st' h
    simp only [codeD] at h
    split at h
    · rename_i i st1 h1
      have := ih _ _ _ h1
      split at h <;> (simp only [Option.some.injEq, Prod.mk.injEq] at h; rw [← h.2]; exact this)
    · exact ih _ _ _ h
  | loop b ih => intro st ex st' h; simp only [codeD] at h; exact hlp _ _ _ _ h
  | scope b ih => intro st ex st' h; simp only [codeD] at h; exact ih _ _ _ h
  | _ => intro st ex st' h; simp [codeD] at h
theorem loopD_len {call : CallF} (hl : LenOK call) {f : FuncId} : ∀ (n : Nat) (b : Code) (st : St) (ex : Ex) (st' : St), loopD call E f n b st = some (ex, st') → st.H.length ≤ st'.H.length
  | 0, b, st, ex, st', h => by simp [loopD] at h
  | n + 1, b, st, ex, st', h => by
    unfold loopD at h
    have key := codeD_len (E := E) (f := f) hl (lp := loopD call E f n) (fun b st ex st' => loopD_len hl n b st ex st')
    split at h
    · rename_i st1 h1
      exact Nat.le_trans (key _ _ _ _ h1) (loopD_len hl n b st1 ex st' h)
    · exact key _ _ _ _ h
theorem bodyD_len {call : CallF} (hl : LenOK call) {n : Nat} {f : FuncId} {fn : Func} {args : List V} {H H' : Heap} {r : V} (h : bodyD call n E f fn args H = some (r, H')) : H.length ≤ H'.length := by
  unfold bodyD at h
  split at h
  · cases h
  · rename_i c hc
    have key := codeD_len (E := E) (f := f) hl (lp := loopD call E f n) (fun b st ex st' => loopD_len hl n b st ex st')
    split at h
    · rename_i st h1
      obtain ⟨x, _, h2⟩ := Option.map_eq_some_iff.1 h
      simp only [Prod.mk.injEq] at h2
      rw [← h2.2]
      exact key _ _ _ _ h1
    · rename_i st h1
      obtain ⟨x, _, h2⟩ := Option.map_eq_some_iff.1 h
      simp only [Prod.mk.injEq] at h2
      rw [← h2.2]
      exact key _ _ _ _ h1
    · cases h
theorem prep1_len {f : Fk} {H H1 : Heap} {x y : V} (h : prep1 f H x = some (y, H1)) : H.length ≤ H1.length := by
  cases f with
  | s e sz =>
    simp only [prep1] at h
    obtain ⟨y0, _, h2⟩ := Option.map_eq_some_iff.1 h
    simp only [Prod.mk.injEq] at h2
    rw [← h2.2, bump_length]
    exact Nat.le_refl _
  | own e sz =>
    simp only [prep1] at h
    unfold prepO at h
    repeat' split at h
    all_goals first
      | (cases h; done)
      | (simp only [Option.some.injEq, Prod.mk.injEq] at h; rw [← h.2]; simp)
  | keep => simp only [prep1, Option.some.injEq, Prod.mk.injEq] at h; rw [← h.2]; exact Nat.le_refl _
  | drop => simp only [prep1, Option.some.injEq, Prod.mk.injEq] at h; rw [← h.2]; exact Nat.le_refl _
theorem prepL_len : ∀ (fs : List Fk) (H H1 : Heap) (xs ys : List V), prepL fs H xs = some (ys, H1) → H.length ≤ H1.length
  | [], H, H1, [], ys, h => by simp only [prepL, Option.some.injEq, Prod.mk.injEq] at h; rw [← h.2]; exact Nat.le_refl _
  | [], H, H1, x :: xs, ys, h => by simp [prepL] at h
  | f :: fs, H, H1, [], ys, h => by simp [prepL] at h
  | f :: fs, H, H1, x :: xs, ys, h => by
    simp only [prepL] at h
    split at h
    · rename_i y H2 h1
      split at h
      · rename_i ys' H3 h2
        simp only [Option.some.injEq, Prod.mk.injEq] at h
        rw [← h.2]
        exact Nat.le_trans (prep1_len h1) (prepL_len fs H2 H3 xs ys' h2)
      · cases h
    · cases h
theorem prepV_len {fl : List Fk} {H H1 : Heap} {x y : V} (h : prepV fl H x = some (y, H1)) : H.length ≤ H1.length := by
  unfold prepV at h
  split at h
  · obtain ⟨r, h1, h2⟩ := Option.map_eq_some_iff.1 h
    obtain ⟨ys, H2⟩ := r
    simp only [Prod.mk.injEq] at h2
    rw [← h2.2]
    exact prepL_len _ _ _ _ _ h1
  · split at h
    · exact prep1_len h
    · cases h
theorem prepA_len : ∀ (fs : List (List Fk)) (H H1 : Heap) (xs ys : List V), prepA fs H xs = some (ys, H1) → H.length ≤ H1.length
  | [], H, H1, [], ys, h => by simp only [prepA, Option.some.injEq, Prod.mk.injEq] at h; rw [← h.2]; exact Nat.le_refl _
  | [], H, H1, x :: xs, ys, h => by simp [prepA] at h
  | f :: fs, H, H1, [], ys, h => by simp [prepA] at h
  | f :: fs, H, H1, x :: xs, ys, h => by
    simp only [prepA] at h
    split at h
    · rename_i y H2 h1
      split at h
      · rename_i ys' H3 h2
        simp only [Option.some.injEq, Prod.mk.injEq] at h
        rw [← h.2]
        exact Nat.le_trans (prepV_len h1) (prepA_len fs H2 H3 xs ys' h2)
      · cases h
    · cases h
theorem packH_len : ∀ (n : Nat) (fb : List Bf) (H H1 : Heap) (todo seen ids : List Nat), packH n fb H todo seen = some (H1, ids) → H.length ≤ H1.length
  | 0, fb, H, H1, todo, seen, ids, h => by simp [packH] at h
  | n + 1, fb, H, H1, [], seen, ids, h => by simp only [packH, Option.some.injEq, Prod.mk.injEq] at h; rw [← h.1]; exact Nat.le_refl _
  | n + 1, fb, H, H1, id :: todo, seen, ids, h => by
    simp only [packH] at h
    split at h
    · exact packH_len n _ _ _ _ _ _ h
    · split at h
      · split at h
        · have := packH_len n _ _ _ _ _ _ h
          split at this
          · exact this
          · rw [bump_length] at this; exact this
        · cases h
      · split at h
        · split at h
          · split at h
            · rename_i y H2 h1
              split at h
              · split at h
                · have := packH_len n _ _ _ _ _ _ h
                  rw [List.length_set] at this
                  exact Nat.le_trans (prepV_len h1) this
                · cases h
              · cases h
            · cases h
          · cases h
        · cases h
      · cases h
theorem putB_len : ∀ (ids : List Nat) (H bs : Heap), H.length ≤ (putB H ids bs).length
  | [], H, bs => by simp [putB]
  | id :: ids, H, [] => by simp [putB]
  | id :: ids, H, b :: bs => by
    have := putB_len ids (H.set id b) bs
    rw [List.length_set] at this
    simpa only [putB] using this
theorem callH_len {hs : HSpec} {args : List V} {H H' : Heap} {r : V} (h : callH hs args H = some (r, H')) : H.length ≤ H'.length := by
  unfold callH at h
  split at h
  · rename_i ids as H2 hp
    unfold pack at hp
    split at hp
    · rename_i as1 H1 h1
      split at hp
      · rename_i H3 ids' h2
        simp only [Option.some.injEq, Prod.mk.injEq] at hp
        obtain ⟨_, _, rfl⟩ := hp
        have h3 := Nat.le_trans (prepA_len _ _ _ _ _ h1) (packH_len _ _ _ _ _ _ _ h2)
        split at h
        · split at h
          · simp only [Option.some.injEq, Prod.mk.injEq] at h
            rw [← h.2]
            exact Nat.le_trans h3 (putB_len _ _ _)
          · cases h
        · cases h
      · cases hp
    · cases hp
  · cases h
theorem callD_len : ∀ (n : Nat), LenOK (callD E n)
  | 0 => fun f args H r H' h => by simp [callD] at h
  | n + 1 => fun f args H r H' h => by
    have ih := callD_len n
    unfold callD at h
    split at h
    · split at h
      · split at h
        · simp only [Option.some.injEq, Prod.mk.injEq] at h; rw [← h.2]; exact Nat.le_refl _
        · cases h
      · cases h
    · split at h
      · split at h
        · split at h
          · split at h
            · split at h
              · simp only [Option.some.injEq, Prod.mk.injEq] at h; rw [← h.2, bump_length]; exact Nat.le_refl _
              · cases h
            · cases h
          · cases h
        · split at h
          · split at h
            · obtain ⟨x, _, h2⟩ := Option.map_eq_some_iff.1 h
              simp only [Prod.mk.injEq] at h2
              rw [← h2.2, bump_length]
              exact Nat.le_refl _
            · split at h
              · simp only [Option.some.injEq, Prod.mk.injEq] at h
                rw [← h.2]
                refine Nat.le_trans ?_ (place_len _ _ _)
                rw [bump_length]
                exact Nat.le_refl _
              · cases h
          · cases h
      · split at h
        · split at h
          · cases h
          · split at h
            · split at h
              · obtain ⟨x, _, h2⟩ := Option.map_eq_some_iff.1 h
                simp only [Prod.mk.injEq] at h2
                rw [← h2.2, bump_length]
                exact Nat.le_refl _
              · cases h
            · cases h
        · split at h
          · exact callH_len h
          · split at h
            · cases h
            · exact bodyD_len ih h

theorem callD_calls (n : Nat) : CallsOK E (callD E n) := ⟨callD_pure n, callD_free n, callD_row n, callD_len n⟩

def allC (w : World) (b c : Nat) : Prop := ∃ u, w.cell? ⟨b, c, none⟩ = some u

theorem empty_reps {σ σ' : Sg} {w w' : World} {b : Bool} {e : Nat} {u : Value} (h : Reps σ w [.sl b e []] [u]) : Reps σ' w' [.sl b e []] [u] := by
  cases h with
  | slnil _ => exact .slnil .nil
  | slemp a _ => exact .slemp a .nil
  | sl b o c e h0 h1 h2 h3 h4 h5 h6 _ =>
    cases h0.nil_left
    exact .sl b o c e .nil (fun x hx => absurd hx (by simp)) (fun x hx => absurd hx (by simp)) (fun x hx => absurd hx (by simp [flat])) h4 h5 (fun j x hx => by simp [flat] at hx) .nil

theorem mask_reps {σ σ' : Sg} {w w' : World} {cs : List V} {ws : List Value} (h : Reps σ w cs ws) : Reps σ' w' (cs.map maskC) ws := by
  induction cs generalizing ws with
  | nil => cases h.nil_left; exact .nil
  | cons c cs ih =>
    obtain ⟨v, vs, rfl, h1, h2⟩ := h.cons_left
    simp only [List.map_cons]
    refine Reps.cons_iff.2 ⟨?_, ih h2⟩
    unfold maskC
    split
    · cases h1 with
      | lit hl _ => exact .lit hl .nil
    · exact empty_reps h1
    · exact .und _ .nil

theorem mask_noRef (cs : List V) : noRefs (cs.map maskC) = true := by
  induction cs with
  | nil => rfl
  | cons c cs ih =>
    simp only [List.map_cons, noRefs, Bool.and_eq_true]
    exact ⟨by unfold maskC; split <;> simp [noRef, noRefs], ih⟩

theorem showP_reps {B : Nat} {w0 : Start} {σ : Sg} {H : Heap} {w : World} (h : Inv B w0 σ H w) {x y : V} {v : Value} (hr : Reps σ w [x] [v]) (hs : showP H x = some y) : Reps (bare (allC w)) w [y] [v] ∧ noRef y = true := by
  unfold showP at hs
  split at hs
  · rename_i id i off tot
    split at hs
    · rename_i hz
      obtain ⟨rfl, rfl⟩ := hz
      split at hs
      · rename_i b hb
        obtain ⟨b1, b2, b3⟩ := boxAt_some hb
        split at hs
        · rename_i cs hrow hxs
          simp only [Option.some.injEq] at hs
          subst hs
          obtain ⟨L, us, m⟩ := h.meet b1 b2
          cases hr with
          | ptr g k1 k2 k3 k4 k5 =>
            rename_i L'
            have hL : L' = L := by
              have := m.box
              rw [k1] at this
              cases this
              rfl
            subst hL
            obtain ⟨n, c, hv⟩ := k3 (m.tot.trans b3)
            have hrep := m.reps
            rw [hxs] at hrep
            have hus : ∃ ws : List Value, us = [.agg ws.toArray] ∧ Reps σ w cs ws ∧ ∀ u ∈ ws, u.oneCell' = true := by
              cases hrep with
              | agg q1 q2 q3 => cases q3; exact ⟨_, rfl, q1, q2⟩
            obtain ⟨ws, hus, hcs, hone⟩ := hus
            refine ⟨?_, by simp [noRef, noRefs, mask_noRef]⟩
            have key : Reps (bare (allC w)) w [.ept b.esz [.agg (cs.map maskC)] 0 0] [.pointer (some ⟨g, 0 + 0 * b.esz + 0, none⟩)] := by
              refine .ept (us := us) g 0 b.esz 0 0 ?_ ?_ (fun u hu => by rw [m.esz]; exact m.sizes u hu) m.ones ?_ .nil
              · rw [hus]; exact .agg (mask_reps hcs) hone .nil
              · intro x hx
                simp only [List.mem_singleton] at hx
                subst hx
                simp [fzV, okV, noRef, mask_noRef]
              · intro j u hu
                have := m.cell (g := g) (by rw [hv]; rfl) j u hu
                rw [Nat.zero_add]
                exact ⟨⟨u, this⟩, this⟩
            simp_all
        · rename_i z hrow hxs
          simp only [Option.some.injEq] at hs
          subst hs
          obtain ⟨L, us, m⟩ := h.meet b1 b2
          cases hr with
          | ptr g k1 k2 k3 k4 k5 =>
            rename_i L'
            have hL : L' = L := by
              have := m.box
              rw [k1] at this
              cases this
              rfl
            subst hL
            obtain ⟨n, c, hv⟩ := k3 (m.tot.trans b3)
            have hrep := m.reps
            rw [hxs] at hrep
            have hus : us = [z] ∧ leaf z = true := by
              cases hrep with
              | lit q1 q2 => cases q2; exact ⟨rfl, q1⟩
            obtain ⟨hus, hz⟩ := hus
            refine ⟨?_, by simp [noRef, noRefs]⟩
            have key : Reps (bare (allC w)) w [.ept b.esz [.lit z] 0 0] [.pointer (some ⟨g, 0 + 0 * b.esz + 0, none⟩)] := by
              refine .ept (us := us) g 0 b.esz 0 0 ?_ ?_ (fun u hu => by rw [m.esz]; exact m.sizes u hu) m.ones ?_ .nil
              · rw [hus]; exact .lit hz .nil
              · intro x hx
                simp only [List.mem_singleton] at hx
                subst hx
                simp [fzV, okV, noRef]
              · intro j u hu
                have := m.cell (g := g) (by rw [hv]; rfl) j u hu
                rw [Nat.zero_add]
                exact ⟨⟨u, this⟩, this⟩
            simp_all
        · cases hs
      · cases hs
    · cases hs
  · have hn := frz_noRef h hr hs
    refine ⟨?_, hn⟩
    obtain ⟨hI1, hEx1⟩ := h.freeze (idsA x)
    have := frz_reps h hr hs (idsA x) (fun i hi => hi)
    exact this.bare (fun b c hh => ⟨hI1.cells b c hh, rfl⟩) (by simp [noRefs, hn])

theorem showAll_reps {B : Nat} {w0 : Start} {σ : Sg} {H : Heap} {w : World} (h : Inv B w0 σ H w) : ∀ {xs ys : List V} {vs : List Value}, Reps σ w xs vs → showAll H xs = some ys → Reps (bare (allC w)) w ys vs ∧ noRefs ys = true := by
  intro xs
  induction xs with
  | nil =>
    intro ys vs hr hs
    cases hr.nil_left
    simp only [showAll, Option.some.injEq] at hs
    subst hs
    exact ⟨.nil, rfl⟩
  | cons x xs ih =>
    intro ys vs hr hs
    obtain ⟨v, vs', rfl, h1, h2⟩ := hr.cons_left
    simp only [showAll] at hs
    split at hs
    · rename_i y ys' e1 e2
      simp only [Option.some.injEq] at hs
      subst hs
      obtain ⟨r1, n1⟩ := showP_reps h h1 e1
      obtain ⟨r2, n2⟩ := ih h2 e2
      exact ⟨Reps.cons_iff.2 ⟨r1, r2⟩, by simp [noRefs, n1, n2]⟩
    · cases hs

theorem lits_reps {σ σ' : Sg} {w w' : World} {cs : List V} {ws : List Value} (h : Reps σ w cs ws) (hl : cs.all isLitV = true) : Reps σ' w' cs ws := by
  induction cs generalizing ws with
  | nil => cases h.nil_left; exact .nil
  | cons c cs ih =>
    obtain ⟨v, vs, rfl, h1, h2⟩ := h.cons_left
    simp only [List.all_cons, Bool.and_eq_true] at hl
    refine Reps.cons_iff.2 ⟨?_, ih h2 hl.2⟩
    cases h1 with
    | lit hl' _ => exact .lit hl' .nil
    | _ => simp [isLitV] at hl

theorem flat1_reps {σ σ' : Sg} {w w' : World} {x : V} {u : Value} (h : Reps σ w [x] [u]) (hl : flat1 x = true) : Reps σ' w' [x] [u] := by
  unfold flat1 at hl
  split at hl
  · cases h with
    | lit hl' _ => exact .lit hl' .nil
  · cases h with
    | agg h1 h2 _ => exact .agg (lits_reps h1 hl) h2 .nil
  · exact empty_reps h
  · cases hl

theorem flats_reps {σ σ' : Sg} {w w' : World} {cs : List V} {ws : List Value} (h : Reps σ w cs ws) (hl : cs.all flat1 = true) : Reps σ' w' cs ws := by
  induction cs generalizing ws with
  | nil => cases h.nil_left; exact .nil
  | cons c cs ih =>
    obtain ⟨v, vs, rfl, h1, h2⟩ := h.cons_left
    simp only [List.all_cons, Bool.and_eq_true] at hl
    exact Reps.cons_iff.2 ⟨flat1_reps h1 hl.1, ih h2 hl.2⟩

theorem flat_reps {σ σ' : Sg} {w w' : World} {x : V} {u : Value} (h : Reps σ w [x] [u]) (hl : flatV x = true) : Reps σ' w' [x] [u] := by
  unfold flatV at hl
  split at hl
  · cases h with
    | tup h1 _ => exact .tup (flats_reps h1 hl) .nil
  · exact flat1_reps h hl

/-- A call that looks at variables of its caller, seen from its caller. -/
theorem pure_callsQ {P : Program} {E : Env} {B : Nat} {w0 : Start} {σ : Sg} {H : Heap} {w : World} {f : FuncId} {args as : List V} {r : V} {vs : List Value} (ts : List TypeId) (hp : noRefs (retypeAll E.rows ts as) = true → PureFn P E f (retypeAll E.rows ts as) r) (hf : showAll H args = some as) (hfl : flatV r = true) (hI : Inv B w0 σ H w) (hg : GlobOK E σ w) (hr : Reps σ w args vs) :
    Calls P f vs.toArray w fun e w' => ∃ u σ', e = .returned u ∧ Inv B w0 σ' (bump H (args.flatMap idsA)) w' ∧ Ext σ w σ' w' ∧ Reps σ' w' [r] [u] := by
  obtain ⟨hI1, hEx1⟩ := hI.freeze (args.flatMap idsA)
  obtain ⟨r1, n1⟩ := showAll_reps hI hr hf
  have hr1 := retypeAll_reps E.rows ts r1
  refine (hp (by rw [retypeAll_noRef]; exact n1) (allC w) w vs (fun b c h => h) (hg.bare (fun b c h => ⟨hI.cells b c h, rfl⟩)) hr1).mono ?_
  rintro e w' ⟨u, fz', rfl, hb, hmono, hold, hcells, hru, hnr⟩
  obtain ⟨hI2, hEx2⟩ := hI1.grown (Below.grownBy hb)
  exact ⟨u, _, rfl, hI2, hEx1.trans hEx2, flat_reps hru hfl⟩

/-- **Calls that the evaluator answers.** -/
theorem callD_ok (hE : EnvOK E) (hP : E.P = P) (hF : EnvFns P E) : ∀ (n : Nat) (B : Nat) (w0 : Start), CallOK P E B w0 (callD E n) := by
  intro n
  induction n with
  | zero => intro B w0 f args H x H' σ w vs h; cases h
  | succ n ih =>
    intro B w0 f args H x H' σ w vs h hI hg hr
    unfold callD at h
    cases hmk : E.maps f with
    | some l => rw [hF.maps f] at hmk; cases hmk
    | none =>
    simp only [hmk] at h
    cases henv : E.env f with
    | some F =>
      simp only [henv] at h
      by_cases hq : args.any isPtrV = true
      · rw [if_pos hq] at h
        cases ho : E.own f with
        | some e => simp [ho] at h
        | none =>
          cases hf : showAll H args with
          | none => simp [ho, hf] at h
          | some as =>
            simp only [ho, hf] at h
            cases hFa : F (retypeAll E.rows (E.par f) as) with
            | none => simp [hFa] at h
            | some r =>
              simp only [hFa] at h
              split at h
              · rename_i hfl
                simp only [Option.some.injEq, Prod.mk.injEq] at h
                obtain ⟨rfl, rfl⟩ := h
                obtain ⟨h1, h2⟩ := hF.env f F henv
                refine ⟨h1, pure_callsQ (E.par f) (fun hn => ?_) hf hfl hI hg hr⟩
                simp_all
              · cases h
      rw [if_neg hq] at h
      cases hf : frzAll H args with
      | none => simp [hf] at h
      | some as =>
        simp only [hf] at h
        cases hFa : F (retypeAll E.rows (E.par f) as) with
        | none =>
          grind
        | some r =>
          obtain ⟨h1, h2⟩ := hF.env f F henv
          have h3 := h2 _ r (by rw [retypeAll_noRef]; exact frzAll_noRef hI hr hf) hFa
          cases ho : E.own f with
          | none =>
            simp only [ho, hFa, Option.map_some, Option.some.injEq, Prod.mk.injEq] at h
            obtain ⟨rfl, rfl⟩ := h
            rw [ho] at h3
            exact ⟨h1, pure_calls (E.par f) h3 hf hI hg hr⟩
          | some e =>
            simp only [ho, hFa] at h
            rw [ho] at h3
            split at h
            · rename_i sz xs hr0
              simp only [Option.some.injEq, Prod.mk.injEq] at h hr0
              obtain ⟨rfl, rfl⟩ := h
              exact ⟨h1, own_calls (E.par f) (h3 sz xs hr0) hf hI hg hr⟩
            · cases h
    | none =>
      simp only [henv] at h
      split at h
      · cases hfn : E.func f with
        | none => simp [hfn] at h
        | some fn =>
          simp only [hfn] at h
          cases hf : frzAll H args with
          | none => simp [hf] at h
          | some as =>
            simp only [hf] at h
            cases hbd : bodyD (callD E n) n E f fn as [] with
            | none => simp [hbd] at h
            | some rr =>
              obtain ⟨r0, H2⟩ := rr
              simp only [hbd] at h
              cases hft : frzT H2 r0 with
              | none => simp [hft] at h
              | some r =>
                simp only [hft, Option.map_some, Option.some.injEq, Prod.mk.injEq] at h
                obtain ⟨rfl, rfl⟩ := h
                have hent : Entered P f := by
                  obtain ⟨hf1, hf2⟩ := hE.func f fn hfn
                  rw [hP] at hf1
                  refine ⟨fn, hf1, ?_, hf2⟩
                  unfold bodyD at hbd
                  cases hb : fn.body with
                  | none => simp [hb] at hbd
                  | some c => rfl
                exact ⟨hent, pure_calls [] (by simpa [retypeAll] using body_pure hE hP ih (callD_calls n) hfn hbd hft) hf hI hg hr⟩
      · cases hhm : E.hm f (if rowF E f then [] else fnKey args) with
        | some hs =>
          simp only [hhm] at h
          obtain ⟨h1, h2⟩ := hF.hm f _ hs hhm
          exact ⟨h1, callH_ok h2 h hI hg hr⟩
        | none =>
          simp only [hhm] at h
          cases hfn : E.func f with
          | none => simp [hfn] at h
          | some fn =>
            simp only [hfn] at h
            exact body_ok hE hP (ih B w0) (callD_calls n) hfn h hI hg hr

/-- **What a pure call answers.** -/
theorem pureFn_of {n : Nat} {as : List V} {r : V} {H' : Heap} (hE : EnvOK E) (hP : E.P = P) (hF : EnvFns P E) (hp : E.pure f = true) (hne : E.env f = none) (hmk : E.maps f = none) (hn : frzAll [] as = some as) (h : callD E (n + 1) f as [] = some (r, H')) : PureFn P E f as r := by
  unfold callD at h
  simp only [hmk, hne, hp, if_true] at h
  cases hfn : E.func f with
  | none => simp [hfn] at h
  | some fn =>
    simp only [hfn, hn] at h
    cases hbd : bodyD (callD E n) n E f fn as [] with
    | none => simp [hbd] at h
    | some rr =>
      obtain ⟨r0, H2⟩ := rr
      simp only [hbd] at h
      cases hft : frzT H2 r0 with
      | none => simp [hft] at h
      | some r' =>
        simp only [hft, Option.map_some, Option.some.injEq, Prod.mk.injEq] at h
        obtain ⟨rfl, _⟩ := h
        exact body_pure hE hP (callD_ok hE hP hF n) (callD_calls n) hfn hbd hft

end

end Go.Proofs.YtpikcdlhgiooaaaGreat.Le

/-
  The evaluator over symbolic values: typed lists, decision trees. Definitions.
-/
namespace Go.Proofs.YtpikcdlhgiooaaaGreat.Le
set_option linter.unusedVariables false

inductive SV (Ty : Nat → Type) where
  | lit (v : Value)                       -- a constant
  | si (k : IntKind) (a : Int)
  | sb (b : Bool)
  | ss (s : ByteArray)
  | agg (cs : List (SV Ty))
  | tup (vs : List (SV Ty))
  | nil (e : Nat)                         -- a slice that is surely nil
  | sl (t : Nat) (xs : List (Ty t))
  | slt (t : Nat) (xs : List (Ty t))      -- its capacity is its length
  | all (id n : Nat)                      -- a slice of all n elements of a box
  | lsl (id off len tot : Nat)
  | ptr (id i off tot : Nat)
  | ept (t : Nat) (xs : List (Ty t)) (i off : Nat)
  | fn (f : FuncId) (first caps : List (SV Ty))
  | raw (v : V)
  | mps (kvs : List (SV Ty))              -- a map that changes no more
  | sel (d : Nat) (cs : List V) (off : Nat) -- the place of a cell of a listed array
  | no
  | und

instance (Ty : Nat → Type) : Inhabited (SV Ty) := ⟨.und⟩

/-- The types of a program as types of Lean. -/
structure Univ where
  Ty : Nat → Type
  esz : Nat → Nat
  enc : (t : Nat) → Ty t → V
  encS : (t : Nat) → Ty t → SV Ty
  decS : (t : Nat) → SV Ty → Option (Ty t)
  keys : List Nat

section
variable (U : Univ)

mutual
def toV : SV U.Ty → V
  | .lit v => .lit v
  | .si k a => .lit (.int k a)
  | .sb b => .lit (.bool b)
  | .ss s => .lit (.string s)
  | .agg cs => .agg (toVs cs)
  | .tup cs => .tup (toVs cs)
  | .nil e => .sl true e []
  | .sl t xs => .sl false (U.esz t) (xs.map (U.enc t))
  | .slt t xs => .slt false (U.esz t) (xs.map (U.enc t))
  | .all id n => .lsl id 0 n n
  | .lsl id off len tot => .lsl id off len tot
  | .ptr id i off tot => .ptr id i off tot
  | .ept t xs i off => .ept (U.esz t) (xs.map (U.enc t)) i off
  | .fn f a b => .fn f (toVs a) (toVs b)
  | .raw v => v
  | .mps cs => .mpl (toVs cs)
  | .sel d cs off => .ept d [.agg cs] 0 off
  | .no => .no
  | .und => .und
def toVs : List (SV U.Ty) → List V
  | [] => []
  | x :: xs => toV x :: toVs xs
end

inductive SBox (Ty : Nat → Type) where
  | var (elem : TypeId) (esz : Nat) (x : SV Ty)
  | row (t : Nat) (xs : List (Ty t)) (fl : Option Nat)
  | dead
  | gone          -- a row that was given away
  | fvar (elem : TypeId) (esz : Nat) (x : SV Ty)   -- a variable that is frozen

def SBox.floor {Ty : Nat → Type} (fl : Option Nat) : Nat := fl.getD 0

def toBox : SBox U.Ty → Box
  | .var e n x => newBox false false e n [toV U x]
  | .row t xs fl => { live := true, row := true, nilp := false, elem := t, esz := U.esz t, xs := xs.map (U.enc t), floor := fl.getD 0 }
  | .dead => deadBox
  | .gone => goneBox
  | .fvar e n x => { newBox false false e n [toV U x] with floor := 1 }

abbrev SHeap := List (SBox U.Ty)
def toH (H : SHeap U) : Heap := H.map (toBox U)

structure SSt where
  s : List (SV U.Ty)
  H : SHeap U

def toSt (st : SSt U) : St := ⟨toVs U st.s, toH U st.H⟩

/-! ### decision trees -/

inductive Tr (L : Type) where
  | leaf (l : L)
  | br (c : Bool) (a b : Tr L)
  | bind (t : Nat) (o : Option (U.Ty t)) (k : U.Ty t → Tr L)
  | chk (c : Bool) (a : Tr L)
  | fail

variable {U}
def Tr.andThen {L M : Type} : Tr U L → (L → Tr U M) → Tr U M
  | .leaf l, f => f l
  | .br c a b, f => .br c (a.andThen f) (b.andThen f)
  | .bind t o k, f => .bind t o fun x => (k x).andThen f
  | .chk c a, f => .chk c (a.andThen f)
  | .fail, _ => .fail

def Tr.map {L M : Type} (g : L → M) : Tr U L → Tr U M
  | .leaf l => .leaf (g l)
  | .br c a b => .br c (a.map g) (b.map g)
  | .bind t o k => .bind t o fun x => (k x).map g
  | .chk c a => .chk c (a.map g)
  | .fail => .fail

/-- What a tree comes to, if its leaves come to something. -/
def Tr.den {L R : Type} (J : L → Option R) : Tr U L → Option R
  | .leaf l => J l
  | .br c a b => cond c (a.den J) (b.den J)
  | .bind t o k => o.bind fun x => (k x).den J
  | .chk c a => cond c (a.den J) none
  | .fail => none

def Tr.Runs {L : Type} : Tr U L → L → Prop
  | .leaf l, x => l = x
  | .br c a b, x => (c = true ∧ a.Runs x) ∨ (c = false ∧ b.Runs x)
  | .bind t o k, x => ∃ a, o = some a ∧ (k a).Runs x
  | .chk c a, x => c = true ∧ a.Runs x
  | .fail, _ => False

def Tr.opt {L : Type} : Option L → Tr U L
  | some l => .leaf l
  | none => .fail
def Tr.when {L : Type} (p : Prop) [Decidable p] (a : Tr U L) : Tr U L := if p then a else .fail

variable (U)
/-! ### values -/

def ofV1 : V → SV U.Ty
  | .lit v => .lit v
  | .sl true e [] => .nil e
  | .no => .no
  | .und => .und
  | v => .raw v
def ofV : V → SV U.Ty
  | .agg cs => .agg (cs.map (ofV1 U))
  | v => ofV1 U v

variable {U}
def cellsS : SV U.Ty → List (SV U.Ty)
  | .agg cs => cs
  | v => [v]
def okS : SV U.Ty → Bool
  | .und | .no | .tup _ | .mps _ | .sel .. => false
  | .raw (.agg _) => false
  | .raw v => okV v
  | _ => true

/-- What is a scalar, as the evaluator over values has it. -/
def scal : SV U.Ty → Option Value
  | .lit v => some v
  | .si k a => some (.int k a)
  | .sb b => some (.bool b)
  | .ss s => some (.string s)
  | _ => none

def asInt : SV U.Ty → Option (IntKind × Int)
  | .lit (.int k a) => some (k, a)
  | .si k a => some (k, a)
  | _ => none
def asStr : SV U.Ty → Option ByteArray
  | .lit (.string s) => some s
  | .ss s => some s
  | _ => none
def asBool : SV U.Ty → Option Bool
  | .lit (.bool b) => some b
  | .sb b => some b
  | _ => none

def evS (E : Env) (s : List (SV U.Ty)) : Operand → SV U.Ty
  | .tmp t => s.getD t .und
  | .const v => ofV U (ofConst v)
  | .func f => .fn f [] []
  | .global g => match E.glob g with | some r => .raw (.ept r.length [.agg r] 0 0) | none => .und

def setS (s : List (SV U.Ty)) (d : Option Tmp) (v : SV U.Ty) : List (SV U.Ty) := match d with | some t => s.set t v | none => s

def placeS (H : SHeap U) (k : Nat) (b : SBox U.Ty) : SHeap U := if k < H.length then H.set k b else H ++ [b]

/-- A whole row, looked at by a slice of n elements. -/
def rowAt {L : Type} (H : SHeap U) (id tot : Nat) (k : (t : Nat) → List (U.Ty t) → Option Nat → Tr U L) : Tr U L :=
  match H[id]? with
  | some (.row t xs fl) => .chk (xs.length == tot) (k t xs fl)
  | _ => .fail

/-! ### freezing -/

def frz0S (H : SHeap U) : SV U.Ty → Tr U (SV U.Ty)
  | .lit v => .leaf (.lit v)
  | .si k a => .leaf (.si k a)
  | .sb b => .leaf (.sb b)
  | .ss s => .leaf (.ss s)
  | .nil e => .leaf (.nil e)
  | .sl t xs => .leaf (.sl t xs)
  | .slt t xs => .leaf (.sl t xs)
  | .all id n => rowAt H id n fun t xs _ => .leaf (.sl t xs)
  | .lsl id off len tot => rowAt H id tot fun t xs _ => .chk (decide (off + len ≤ tot)) (.leaf (.sl t ((xs.drop off).take len)))
  | .fn f [] [] => .leaf (.fn f [] [])
  | _ => .fail

def frzLS (H : SHeap U) : List (SV U.Ty) → Tr U (List (SV U.Ty))
  | [] => .leaf []
  | v :: vs => (frz0S H v).andThen fun w => (frzLS H vs).andThen fun ws => .leaf (w :: ws)

def frzS (H : SHeap U) : SV U.Ty → Tr U (SV U.Ty)
  | .agg cs => (frzLS H cs).andThen fun ws => .leaf (.agg ws)
  | v => frz0S H v

def frzAllS (H : SHeap U) : List (SV U.Ty) → Tr U (List (SV U.Ty))
  | [] => .leaf []
  | v :: vs => (frzS H v).andThen fun w => (frzAllS H vs).andThen fun ws => .leaf (w :: ws)

def ids1S : SV U.Ty → List Nat
  | .lsl id _ _ _ => [id]
  | .all id _ => [id]
  | .raw v => ids1 v
  | _ => []
def idsAS : SV U.Ty → List Nat
  | .agg cs => cs.flatMap ids1S
  | .raw v => idsA v
  | v => ids1S v

def bumpBox : SBox U.Ty → SBox U.Ty
  | .row t xs _ => .row t xs (some xs.length)
  | b => b
def bumpS (H : SHeap U) : List Nat → SHeap U
  | [] => H
  | i :: is => bumpS (H.modify i bumpBox) is

/-! ### reading and writing -/

def partS (cs : List (SV U.Ty)) (off n : Nat) (isAgg : Bool) : Option (SV U.Ty) :=
  if isAgg then (if off + n ≤ cs.length then some (.agg ((cs.drop off).take n)) else none) else cs[off]?

def decAll (e : Nat) : List (SV U.Ty) → Option (List (U.Ty e))
  | [] => some []
  | v :: vs => match okS v, U.decS e v, decAll e vs with | true, some a, some as => some (a :: as) | _, _, _ => none

def loadT (E : Env) (H : SHeap U) (t : TypeId) (a : SV U.Ty) : Tr U (SV U.Ty) :=
  match E.ti t with
  | none => .fail
  | some i =>
    match a with
    | .ept et xs j off => .bind et xs[j]? fun x => .opt (partS (cellsS (U.encS et x)) off i.size i.isAgg)
    | .ptr id j off tot => match H[id]? with
      | some (.var _ _ x) => .when (j = 0 ∧ tot = 1 ∧ okS x = true) (.opt (partS (cellsS x) off i.size i.isAgg))
      | some (.row et xs _) => .chk (xs.length == tot) (.bind et xs[j]? fun x => .opt (partS (cellsS (U.encS et x)) off i.size i.isAgg))
      | _ => .fail
    | .raw (.ept _ [.lit z] 0 0) => .opt (partS [.lit z] 0 i.size i.isAgg)
    | .raw (.ept _ [.agg cs] 0 off) => .opt ((partOf cs off i.size i.isAgg).map (ofV U))
    | .sel _ cs off => match decAll t (cs.map (ofV1 U)) with
      | some ys => .when (i.size = 1 ∧ i.isAgg = false ∧ cs.all isLitV = true) (.bind t ys[off]? fun x => .leaf (U.encS t x))
      | none => .fail
    | _ => .fail

def spliceS (x : SV U.Ty) (off : Nat) (cs : List (SV U.Ty)) : Option (SV U.Ty) :=
  match x with
  | .agg ds => if off + cs.length ≤ ds.length then some (.agg (ds.take off ++ cs ++ ds.drop (off + cs.length))) else none
  | .raw _ => none
  | _ => match off, cs with | 0, [c] => some c | _, _ => none

def storeT (E : Env) (H : SHeap U) (t : TypeId) (a v : SV U.Ty) : Tr U (SHeap U) :=
  match E.ti t with
  | none => .fail
  | some i =>
    match a with
    | .ptr id j off tot => match H[id]? with
      | some (.var e n x) => .when ((j = 0 ∧ tot = 1) ∧ (cellsS v).length = i.size ∧ okS v = true ∧ okS x = true)
          (match spliceS x off (cellsS v) with
           | some x' => .when (okS x' = true) (.leaf (H.set id (.var e n x')))
           | none => .fail)
      | some (.row et xs fl) => .when ((cellsS v).length = i.size ∧ okS v = true ∧ (idsAS v).contains id = false)
          (.chk (xs.length == tot && decide (fl.getD 0 ≤ j)) (.bind et xs[j]? fun x => (frzS H v).andThen fun v' =>
            match spliceS (U.encS et x) off (cellsS v') with
            | some x' => match U.decS et x' with
              | some y => .when (okS v' = true ∧ okS x' = true) (.leaf ((bumpS H (idsAS v)).set id (.row et (xs.set j y) fl)))
              | none => .fail
            | none => .fail))
      | _ => .fail
    | _ => .fail

end

end Go.Proofs.YtpikcdlhgiooaaaGreat.Le

/-
  The evaluator over symbolic values: operations, regions, code. Definitions.
-/
namespace Go.Proofs.YtpikcdlhgiooaaaGreat.Le
set_option linter.unusedVariables false

section
variable {U : Univ}

/-! ### scalars -/

def intT (op : BinOp) (k : IntKind) (a b : Int) (lit : Bool) : Tr U (SV U.Ty) :=
  match op with
  | .add => .leaf (.si k (k.wrap (a + b)))
  | .sub => .leaf (.si k (k.wrap (a - b)))
  | .mul => .leaf (.si k (k.wrap (a * b)))
  | .quo => if lit then (if b = 0 then .fail else .leaf (.si k (k.wrap (a.tdiv b)))) else .chk (b != 0) (.leaf (.si k (k.wrap (a.tdiv b))))
  | .rem => if lit then (if b = 0 then .fail else .leaf (.si k (a.tmod b))) else .chk (b != 0) (.leaf (.si k (a.tmod b)))
  | .and | .or | .xor | .andNot => .leaf (.si k (bits op k a b))
  | .eql => .leaf (.sb (a == b))
  | .neq => .leaf (.sb (a != b))
  | .lss => .leaf (.sb (decide (a < b)))
  | .leq => .leaf (.sb (decide (a ≤ b)))
  | .gtr => .leaf (.sb (decide (a > b)))
  | .geq => .leaf (.sb (decide (a ≥ b)))
  | _ => .fail

def shiftV (op : BinOp) (k : IntKind) (a b : Int) : Option Int :=
  match op with
  | .shl => some (k.wrap (a * 2 ^ min b.toNat k.bits))
  | .shr => some (a.fdiv (2 ^ min b.toNat k.bits))
  | _ => none

def shiftT (op : BinOp) (k : IntKind) (a b : Int) (lit : Bool) : Tr U (SV U.Ty) :=
  match shiftV op k a b with
  | none => .fail
  | some r => if lit then (if b < 0 then .fail else .leaf (.si k r)) else .chk (decide (0 ≤ b)) (.leaf (.si k r))

def strT (op : BinOp) (x y : ByteArray) : Tr U (SV U.Ty) :=
  match op with
  | .add => .chk (decide (x.size + y.size ≤ maxLen)) (.leaf (.ss (x ++ y)))
  | .eql => .leaf (.sb (x.toList == y.toList))
  | .neq => .leaf (.sb !(x.toList == y.toList))
  | .lss => .leaf (.sb (Op.bytesLess x.toList y.toList))
  | .leq => .leaf (.sb (Op.bytesLess x.toList y.toList || x.toList == y.toList))
  | .gtr => .leaf (.sb !(Op.bytesLess x.toList y.toList || x.toList == y.toList))
  | .geq => .leaf (.sb !(Op.bytesLess x.toList y.toList))
  | _ => .fail

/-- Whether two rows of cells of a flat type are equal, and whether that can be said. -/
def eqCellsS : List FK → List (SV U.Ty) → List (SV U.Ty) → Option Bool
  | [], [], [] => some true
  | .b :: ks, x :: xs, y :: ys => match asBool x, asBool y, eqCellsS ks xs ys with | some a, some b, some r => some (a == b && r) | _, _, _ => none
  | .i k :: ks, x :: xs, y :: ys => match asInt x, asInt y, eqCellsS ks xs ys with
    | some (k1, a), some (k2, b), some r => if k1 = k ∧ k2 = k then some (a == b && r) else none
    | _, _, _ => none
  | .s :: ks, x :: xs, y :: ys => match asStr x, asStr y, eqCellsS ks xs ys with | some a, some b, some r => some (a == b && r) | _, _, _ => none
  | _, _, _ => none

def isLit : SV U.Ty → Bool | .lit _ => true | _ => false
def litOf : SV U.Ty → SV U.Ty | .si k a => .lit (.int k a) | .sb b => .lit (.bool b) | v => v

def binT (E : Env) (op : BinOp) (t : TypeId) (x y : SV U.Ty) : Tr U (SV U.Ty) :=
  match x, y with
  | .agg xs, .agg ys => match E.flat t with
    | some ks => match eqCellsS ks xs ys with
      | some b => (match op with | .eql => .leaf (.sb b) | .neq => .leaf (.sb !b) | _ => .fail)
      | none => .fail
    | none => .fail
  | x, y => match asInt x, asInt y with
    | some (k, a), some (j, b) => (match op with
      | .shl => shiftT .shl k a b (isLit y)
      | .shr => shiftT .shr k a b (isLit y)
      | op => if k = j then intT op k a b (isLit y) else .fail)
    | _, _ => match asStr x, asStr y with
      | some a, some b => strT op a b
      | _, _ => match asBool x, asBool y with
        | some a, some b => if E.isBool t then (match op with | .eql => .leaf (.sb (a == b)) | .neq => .leaf (.sb (!(a == b))) | _ => .fail) else .fail
        | _, _ => .fail

def unT (op : UnOp) (x : SV U.Ty) : Tr U (SV U.Ty) :=
  match op, asInt x, asBool x with
  | .neg, some (k, n), _ => .leaf (.si k (k.wrap (0 - n)))
  | .xor, some (k, n), _ => .leaf (.si k (bits .xor k (if k.signed then -1 else k.max) n))
  | .not, _, some b => .leaf (.sb !b)
  | _, _, _ => .fail

def mmT (isMax : Bool) (k : IntKind) : Int → List (SV U.Ty) → Option Int
  | a, [] => some a
  | a, x :: rest => match asInt x with
    | some (j, b) => if k = j then mmT isMax k (if isMax then (if b > a then b else a) else (if b < a then b else a)) rest else none
    | none => none

def minmaxT (isMax : Bool) : List (SV U.Ty) → Tr U (SV U.Ty)
  | x :: rest => match asInt x with
    | some (k, a) => (match mmT isMax k a rest with | some r => .leaf (.si k r) | none => .fail)
    | none => .fail
  | [] => .fail

/-! ### literals, fields -/

def fillS (cs : List (SV U.Ty)) : List (Nat × SV U.Ty) → (Nat → Option (Nat × Nat)) → Option (List (SV U.Ty))
  | [], _ => some cs
  | (i, v) :: rest, place =>
    match place i with
    | none => none
    | some (off, size) => if (cellsS v).length == size && decide (off + size ≤ cs.length) && okS v then fillS (cs.take off ++ cellsS v ++ cs.drop (off + size)) rest place else none

def buildT (E : Env) (t : TypeId) (parts : List (Nat × SV U.Ty)) : Option (SV U.Ty) :=
  match E.ti t with
  | some i => match i.zero with
    | some z =>
      if okV z then
        match i.ty with
        | .struct fs => if fs.all fun x => (E.ti x.2).isSome then (fillS (cellsS (ofV U z)) parts (placesOf E fs)).map .agg else none
        | .array _ e => match E.ti e with
          | some ei => (fillS (cellsS (ofV U z)) parts (fun i => some (i * ei.size, ei.size))).map .agg
          | none => none
        | _ => none
      else none
    | none => none
  | none => none

def buildSliceT (E : Env) (k : Nat) (H : SHeap U) (t : TypeId) (n : Nat) (parts : List (Nat × SV U.Ty)) : Tr U (SV U.Ty × SHeap U) :=
  match E.ti t with
  | some ⟨.slice e, _, _, _⟩ => match E.ti e with
    | some ei => match ei.zero with
      | some z => (frzAllS H (parts.map (·.2))).andThen fun vs => match decAll e vs with
        | some ys => .when ((n * ei.size ≤ 16777216 ∧ 0 < ei.size ∧ z.cells.length = ei.size ∧ okV z = true) ∧ parts.map (·.1) = List.range n ∧ vs.all (fun v => (cellsS v).length == ei.size) = true ∧ U.esz e = ei.size)
            (.leaf (.all k n, placeS (bumpS H ((parts.map (·.2)).flatMap idsAS)) k (.row e ys none)))
        | none => .fail
      | none => .fail
    | none => .fail
  | _ => .fail

def fieldAddrT (E : Env) (s : TypeId) (x : SV U.Ty) (f : Nat) : Option (SV U.Ty) :=
  match E.ti s with
  | some ⟨.struct fs, _, _, _⟩ => match fs[f]? with
    | some (o, t) => match E.size t with
      | some sz => if sz = 0 then none else match x with
        | .ptr id j off tot => some (.ptr id j (off + o) tot)
        | .ept d xs j off => some (.ept d xs j (off + o))
        | .raw (.ept d xs j off) => some (.raw (.ept d xs j (off + o)))
        | _ => none
      | none => none
    | none => none
  | _ => none

def fieldT (E : Env) (s : TypeId) (x : SV U.Ty) (f : Nat) : Option (SV U.Ty) :=
  match E.ti s, x with
  | some ⟨.struct fs, _, _, _⟩, .agg cs => match fs[f]? with
    | some (o, t) => match E.ti t with | some i => partS cs o i.size i.isAgg | none => none
    | none => none
  | _, _ => none

/-! ### slices -/

def elemsT (H : SHeap U) (x : SV U.Ty) (e : Nat) : Tr U (List (U.Ty e)) :=
  let go (t : Nat) (xs : List (U.Ty t)) : Tr U (List (U.Ty e)) := if h : t = e then .leaf (h ▸ xs) else .fail
  match x with
  | .nil _ => .leaf []
  | .sl t xs => go t xs
  | .slt t xs => go t xs
  | .all id n => rowAt H id n fun t xs _ => go t xs
  | .lsl id off len tot => rowAt H id tot fun t xs _ => .chk (decide (off + len ≤ tot)) (go t ((xs.drop off).take len))
  | _ => .fail

def appendT (E : Env) (k : Nat) (H : SHeap U) (t u : TypeId) (s x : SV U.Ty) : Tr U (SV U.Ty × SHeap U) :=
  match E.ti t with
  | some ⟨.slice e, _, _, _⟩ => match E.ti e with
    | some ei => .when (u = t ∧ 0 < ei.size ∧ ei.zok = true ∧ U.esz e = ei.size) ((elemsT H x e).andThen fun ys =>
        match s with
        | .all id n => rowAt H id n fun t' xs fl => if h : t' = e then
            .chk (decide ((n + ys.length) * ei.bytes ≤ lim) && decide (n + ys.length ≤ maxLen))
              (.leaf (.all id ((h ▸ xs : List (U.Ty e)) ++ ys).length, H.set id (.row e ((h ▸ xs : List (U.Ty e)) ++ ys) fl)))
          else .fail
        | .lsl id off len tot => rowAt H id tot fun t' xs fl => if h : t' = e then
            .chk (decide (off = 0) && (decide (fl.getD 0 ≤ len) && (decide (len < tot) && decide (len + ys.length ≤ tot))))
              (.leaf (.lsl id 0 (len + ys.length) tot, H.set id (.row e ((h ▸ xs : List (U.Ty e)).take len ++ ys ++ (h ▸ xs : List (U.Ty e)).drop (len + ys.length)) fl)))
          else .fail
        | .nil _ => .chk (decide (ys.length * ei.bytes ≤ lim) && decide (ys.length ≤ maxLen)) (.leaf (.all k ys.length, placeS H k (.row e ys none)))
        | .slt t' xs => if h : t' = e then
            .chk (decide ((xs.length + ys.length) * ei.bytes ≤ lim) && decide (xs.length + ys.length ≤ maxLen))
              (.br ys.isEmpty (.leaf (.slt t' xs, H)) (.leaf (.all k ((h ▸ xs : List (U.Ty e)) ++ ys).length, placeS H k (.row e ((h ▸ xs : List (U.Ty e)) ++ ys) none))))
          else .fail
        | _ => .fail)
    | none => .fail
  | _ => .fail

def copyT (E : Env) (H : SHeap U) (t u : TypeId) (d x : SV U.Ty) : Tr U (SV U.Ty × SHeap U) :=
  match E.ti t with
  | some ⟨.slice e, _, _, _⟩ => match E.ti e with
    | some ei => .when (U.esz e = ei.size) ((elemsT H x e).andThen fun ys =>
        match d with
        | .all id n => rowAt H id n fun t' xs fl => if h : t' = e then
            .when (fl.getD 0 = 0) (.leaf (.si .i64 (min ys.length xs.length : Nat), H.set id (.row e (ys.take xs.length ++ (h ▸ xs : List (U.Ty e)).drop ys.length) fl)))
          else .fail
        | _ => .fail)
    | none => .fail
  | _ => .fail

def lenT (x : SV U.Ty) : Option Nat :=
  match x with
  | .nil _ => some 0
  | .sl _ xs => some xs.length
  | .slt _ xs => some xs.length
  | .lit (.string s) => some s.size
  | .ss s => some s.size
  | _ => none

/-- The length of a slice in a box, whose version is looked at. -/
def lenAt {L : Type} (H : SHeap U) (x : SV U.Ty) (k : Nat → Tr U L) : Tr U L :=
  match x with
  | .all id n => rowAt H id n fun _ _ _ => k n
  | .lsl id _ len tot => rowAt H id tot fun _ _ _ => k len
  | x => match lenT x with | some n => k n | none => .fail

def isStrS (x : SV U.Ty) : Bool := (asStr x).isSome
def lenFitsS (E : Env) (t : TypeId) (x : SV U.Ty) : Bool :=
  if isStrS x then E.isStr t else match E.ti t with | some ⟨.slice _, _, _, _⟩ => true | _ => false

/-- A bound of a slice expression, known or to be looked at. -/
def boundT {L : Type} (x : Option (SV U.Ty)) (hi dflt : Nat) (k : Nat → Tr U L) : Tr U L :=
  match x with
  | none => k dflt
  | some v => match asInt v with
    | some (_, n) => .chk (decide (0 ≤ n ∧ n ≤ hi)) (k n.toNat)
    | none => .fail

def eszIsS (E : Env) (H : SHeap U) (x : SV U.Ty) (n : Nat) : Bool :=
  match x with
  | .nil _ => true
  | .sl t _ => U.esz t == n
  | .slt t _ => U.esz t == n
  | .all id _ | .lsl id _ _ _ => match H[id]? with | some (.row t _ _) => U.esz t == n | _ => false
  | _ => false

def sliceFitsS (E : Env) (H : SHeap U) (t : TypeId) (x : SV U.Ty) : Bool :=
  if isStrS x then E.isStr t else match E.ti t with
    | some ⟨.slice e, _, _, _⟩ => match E.ti e with | some ei => eszIsS E H x ei.size | none => false
    | _ => false

def sliceT (E : Env) (H : SHeap U) (t : TypeId) (x : SV U.Ty) (lo hi mx : Option (SV U.Ty)) : Tr U (SV U.Ty × SHeap U) :=
  if sliceFitsS E H t x then
    lenAt H x fun n => boundT hi n n fun h => boundT lo h 0 fun l =>
      match mx with
      | some m => (match hi with
        | none => .fail
        | some _ => boundT (some m) n n fun k => .chk (k == h)
          (match x with
           | .sl e xs => .leaf (.slt e ((xs.drop l).take (h - l)), H)
           | .slt e xs => .leaf (.slt e ((xs.drop l).take (h - l)), H)
           | .all id n => rowAt H id n fun e xs _ => .leaf (.slt e ((xs.drop l).take (h - l)), bumpS H [id])
           | _ => .fail))
      | none => match x with
        | .nil e => .leaf (.nil e, H)
        | .sl e xs => .leaf (.sl e ((xs.drop l).take (h - l)), H)
        | .slt e xs => .leaf (.sl e ((xs.drop l).take (h - l)), H)
        | .all id n => (match lo, hi with
          | none, none => .leaf (.all id n, H)
          | _, _ => .leaf (.lsl id l (h - l) n, H))
        | .lsl id off _ tot => .leaf (.lsl id (off + l) (h - l) tot, H)
        | x => match asStr x with
          | some s => .leaf (.ss (s.extract l h), H)
          | none => .fail
  else .fail

def optBoundS (x : Option (SV U.Ty)) (n : Nat) : Option Nat := match x with
  | none => some n
  | some (.lit (.int _ h)) => if 0 ≤ h ∧ h ≤ n then some h.toNat else none
  | _ => none
def sliceAT (E : Env) (H : SHeap U) (n e : Nat) (x : SV U.Ty) (lo hi mx : Option (SV U.Ty)) : Tr U (SV U.Ty × SHeap U) :=
  match x, lo, optBoundS hi n, mx with
  | .ptr id i off tot, none, some m, none => match H[id]? with
    | some (.var e' k (.agg cs)) => match decAll e cs with
      | some ys => .when ((i = 0 ∧ off = 0 ∧ tot = 1 ∧ cs.length = n ∧ n ≤ maxLen) ∧ E.size e = some 1 ∧ U.esz e = 1 ∧ cs.all (fun c => (scal c).isSome) = true) (.leaf (.sl e (ys.take m), H.set id (.fvar e' k (.agg cs))))
      | none => .fail
    | _ => .fail
  | _, _, _, _ => .fail
/-- Elements that are scalars. -/
def getsT {L : Type} {t : Nat} (xs : List (U.Ty t)) : Nat → Nat → (List Value → Tr U L) → Tr U L
  | _, 0, k => k []
  | i, n + 1, k => .bind t xs[i]? fun x => match scal (U.encS t x) with | some v => getsT xs (i + 1) n fun vs => k (v :: vs) | none => .fail
/-- The first elements of a slice as an array. -/
def arrT (E : Env) (t : TypeId) (x : SV U.Ty) : Tr U (SV U.Ty) :=
  match E.ti t, x with
  | some ⟨.array n e, _, _, _⟩, .sl t' xs => .when (E.size e = some 1 ∧ U.esz t' = 1 ∧ 0 < n) (getsT xs 0 n fun vs => .leaf (.raw (.ept n [.agg (vs.map .lit)] 0 0)))
  | _, _ => .fail

/-- An element's place, one of few. -/
def pickIdx {L : Type} (n : Int) (lit : Bool) (len : Nat) (k : Nat → Tr U L) : Tr U L :=
  if lit then (if 0 ≤ n ∧ n < len then k n.toNat else .fail)
  else (List.range len).foldr (fun (i : Nat) rest => .br (n == (i : Int)) (k i) rest) .fail

def indexAddrT (E : Env) (H : SHeap U) (t : TypeId) (x i : SV U.Ty) : Tr U (SV U.Ty) :=
  match asInt i, E.ti t with
  | some (_, n), some ti =>
    match ti.ty with
    | .slice el => (match x with
      | .sl et xs => .when (E.size el = some (U.esz et)) (.chk (decide (0 ≤ n ∧ n < xs.length)) (.leaf (.ept et xs n.toNat 0)))
      | .slt et xs => .when (E.size el = some (U.esz et)) (.chk (decide (0 ≤ n ∧ n < xs.length)) (.leaf (.ept et xs n.toNat 0)))
      | .all id m => rowAt H id m fun et xs _ => .when (E.size el = some (U.esz et)) (.chk (decide (0 ≤ n ∧ n < m)) (.leaf (.ptr id n.toNat 0 m)))
      | .lsl id off len tot => rowAt H id tot fun et xs _ => .when (E.size el = some (U.esz et)) (.chk (decide (0 ≤ n ∧ n < len)) (.leaf (.ptr id (off + n.toNat) 0 tot)))
      | _ => .fail)
    | .array len e => (match E.size e with
      | none => .fail
      | some sz => match x with
        | .ptr id j off tot => pickIdx n (isLit i) len fun m => .leaf (.ptr id j (off + m * sz) tot)
        | .ept d xs j off => pickIdx n (isLit i) len fun m => .leaf (.ept d xs j (off + m * sz))
        | .raw (.ept d [.agg cs] 0 0) => if (decide (sz = 1) && (cs.all isLitV && !isLit i)) = true then .chk (decide (0 ≤ n ∧ n < len)) (.leaf (.sel d cs n.toNat))
          else pickIdx n (isLit i) len fun m => .leaf (.raw (.ept d [.agg cs] 0 (0 + m * sz)))
        | .raw (.ept d xs j off) => pickIdx n (isLit i) len fun m => .leaf (.raw (.ept d xs j (off + m * sz)))
        | _ => .fail)
    | _ => .fail
  | _, _ => .fail

def indexT (E : Env) (t : TypeId) (x i : SV U.Ty) : Tr U (SV U.Ty) :=
  match asInt i with
  | some (_, n) =>
    match E.ti t, x with
    | some ⟨.array len e, _, _, _⟩, .agg cs => match E.ti e with
      | some ei => pickIdx n (isLit i) len fun m => .opt (partS cs (m * ei.size) ei.size ei.isAgg)
      | none => .fail
    | some ⟨.scalar, _, _, _⟩, x => match asStr x with
      | some s => if E.isStr t then .chk (decide (0 ≤ n ∧ n < s.size)) (.leaf (.si .u8 (s.get! n.toNat).toNat)) else .fail
      | none => .fail
    | _, _ => .fail
  | none => .fail

def okBytes (U : Univ) (t : Nat) (xs : List (U.Ty t)) : Bool := match bytesOf (xs.map (U.enc t)) with | some bs => decide (bs.length ≤ maxLen) | none => false
def strOf (U : Univ) (t : Nat) (xs : List (U.Ty t)) : ByteArray := ⟨((bytesOf (xs.map (U.enc t))).getD []).toArray⟩
def convB (t : Nat) (xs : List (U.Ty t)) : Tr U (SV U.Ty) := .when (U.esz t = 1) (.chk (okBytes U t xs) (.leaf (.ss (strOf U t xs))))
def convBT (E : Env) (H : SHeap U) (src dst : TypeId) (x : SV U.Ty) : Tr U (SV U.Ty) :=
  .when ((E.isStr dst && E.isBytes src) = true) (match x with
    | .nil _ => .leaf (.ss ⟨#[]⟩)
    | .sl t xs => convB t xs
    | .slt t xs => convB t xs
    | .all id n => rowAt H id n fun t xs _ => convB t xs
    | .lsl id off len tot => rowAt H id tot fun t xs _ => .chk (decide (off + len ≤ tot)) (convB t ((xs.drop off).take len))
    | _ => .fail)

def convT (E : Env) (H : SHeap U) (src dst : TypeId) (x : SV U.Ty) : Tr U (SV U.Ty) :=
  match asInt x with
  | some (_, n) => (match E.kind dst with
    | some k => if (E.ti src).isSome then .leaf (.si k (k.wrap n)) else .fail
    | none => .fail)
  | none => match asStr x with
    | some s => if E.isStr src && E.isStr dst then .leaf (.ss s) else .fail
    | none => convBT E H src dst x

def okStr (U : Univ) (e : Nat) (st : ByteArray) : Bool := st.data.toList.all fun b => (U.decS e (.si .u8 b.toNat)).isSome
def strBytes (U : Univ) (e : Nat) (st : ByteArray) : List (U.Ty e) := st.data.toList.filterMap fun b => U.decS e (.si .u8 b.toNat)
def convST (E : Env) (k : Nat) (H : SHeap U) (dst : TypeId) (x : SV U.Ty) : Tr U (SV U.Ty × SHeap U) :=
  match asStr x, E.ti dst with
  | some st, some ⟨.slice e, _, _, _⟩ => .when (E.size e = some 1 ∧ U.esz e = 1) (.chk (okStr U e st) (.leaf (.all k (strBytes U e st).length, placeS H k (.row e (strBytes U e st) none))))
  | _, _ => .fail

/-! ### one operation -/

/-- What the functions that are called come to. -/
abbrev Mdl (U : Univ) := FuncId → List (SV U.Ty) → SHeap U → Tr U (SV U.Ty × SHeap U)

def okInt (x : SV U.Ty) : Option (Int × Bool) := match x with | .lit (.int _ n) => some (n, true) | .si _ n => some (n, false) | _ => none

def retT (H : SHeap U) (T : Tr U (SV U.Ty)) : Tr U (SV U.Ty × SHeap U) := T.andThen fun v => .leaf (v, H)

def callT (E : Env) (M : Mdl U) (k : Nat) (H : SHeap U) (s : List (SV U.Ty)) (c : Call) : Tr U (SV U.Ty × SHeap U) :=
  match c.callee with
  | .builtin b => (match b, c.args.toList.map (evS E s), c.argTypes.toList with
    | .len, [x], [t] => if lenFitsS E t x then lenAt H x fun n => .leaf (.si .i64 n, H) else .fail
    | .append, [a, x], [t, u] => appendT E k H t u a x
    | .copy, [d, x], [t, u] => copyT E H t u d x
    | .min, args, _ => retT H (minmaxT false args)
    | .max, args, _ => retT H (minmaxT true args)
    | _, _, _ => .fail)
  | .value f => (match evS E s f with
    | .fn g first caps => M g (first ++ c.args.toList.map (evS E s) ++ caps) H
    | _ => .fail)
  | _ => .fail

def lookL {L : Type} (kd : IntKind) (n : Int) (lit : Bool) (z : Tr U L) (f : SV U.Ty → Tr U L) : List (SV U.Ty) → Tr U L
  | [] => z
  | .lit (.int k a) :: v :: r => .when (k = kd) (if lit then (if n = a then f v else lookL kd n lit z f r) else .br (n == a) (f v) (lookL kd n lit z f r))
  | _ => .fail
def lookT (E : Env) (t : TypeId) (ok : Bool) (m x : SV U.Ty) : Tr U (SV U.Ty) :=
  match E.ti t, m, asInt x with
  | some ⟨.map k e, _, _, _⟩, .mps kvs, some (kd, n) => .when (E.kind k = some kd)
    (lookL kd n (isLit x) (match E.ti e with | some ei => (match ei.zero with | some z => .leaf (if ok then .tup [ofV U z, .lit (.bool false)] else ofV U z) | none => .fail) | none => .fail)
      (fun v => .leaf (if ok then .tup [v, .lit (.bool true)] else v)) kvs)
  | _, _, _ => .fail

def opT (E : Env) (M : Mdl U) (k : Nat) (H : SHeap U) (s : List (SV U.Ty)) (o : Oper) : Tr U (SV U.Ty × SHeap U) :=
  match o.op with
  | .move x => .leaf (evS E s x, H)
  | .assign (.const (.slice none 0 0)) => match E.ti o.type with
    | some ⟨.slice e, _, _, _⟩ => .when (U.esz e = (E.size e).getD 0) (.leaf (.all k 0, placeS H k (.row e [] none)))
    | _ => .fail
  | .assign x => .leaf (evS E s x, H)
  | .pick c a b => (match evS E s c with
    | .lit (.bool true) => .leaf (evS E s a, H)
    | .lit (.bool false) => .leaf (evS E s b, H)
    | .sb t => (match asBool (evS E s a), asBool (evS E s b) with
      | some x, some y => .leaf (.sb (cond t x y), H)
      | _, _ => .br t (.leaf (evS E s a, H)) (.leaf (evS E s b, H)))
    | _ => .fail)
  | .alloc t => match E.ti t with
    | some i => match i.zero with | some z => .when (z.cells.length = i.size ∧ okV z = true) (.leaf (.ptr k 0 0 1, placeS H k (.var t i.size (ofV U z)))) | none => .fail
    | none => .fail
  | .box t x => match E.ti t with
    | some i => .when ((cellsS (evS E s x)).length = i.size ∧ okS (evS E s x) = true) (.leaf (.ptr k 0 0 1, placeS H k (.var t i.size (evS E s x))))
    | none => .fail
  | .build t parts => retT H (.opt (buildT E t (parts.toList.map fun (i, x) => (i, evS E s x))))
  | .buildSlice t n parts => buildSliceT E k H t n (parts.toList.map fun (i, x) => (i, evS E s x))
  | .load t a => retT H (loadT E H t (evS E s a))
  | .store t a v => (storeT E H t (evS E s a) (evS E s v)).andThen fun H' => .leaf (.no, H')
  | .nilCheck x => (match evS E s x with
    | .ptr a b c d => .leaf (.ptr a b c d, H)
    | .ept a b c d => .leaf (.ept a b c d, H)
    | .raw (.ept a b c d) => .leaf (.raw (.ept a b c d), H)
    | .fn a b c => .leaf (.fn a b c, H)
    | _ => .fail)
  | .binOp op t x y _ => retT H ((binT E op t (evS E s x) (evS E s y)).andThen fun v => .leaf (if isLit (evS E s x) && isLit (evS E s y) then litOf v else v))
  | .unOp op _ x => retT H (unT op (evS E s x))
  | .convert src dst x => if E.isStr src && E.isBytes dst then convST E k H dst (evS E s x) else retT H (convT E H src dst (evS E s x))
  | .makeSlice t l c => match E.ti t with
    | some ⟨.slice e, _, _, _⟩ => (match okInt (evS E s l), okInt (evS E s c), E.ti e with
      | some (n, _), some (m, _), some ei => (match ei.zero with
        | some z => (match U.decS e (ofV U z) with
          | some y => .when (0 < ei.size ∧ z.cells.length = ei.size ∧ okV z = true ∧ U.esz e = ei.size)
              (.chk (decide (0 ≤ n ∧ n ≤ m ∧ m.toNat * ei.bytes ≤ lim ∧ m ≤ maxLen)) (.leaf (.all k (List.replicate n.toNat y).length, placeS H k (.row e (List.replicate n.toNat y) none))))
          | none => .fail)
        | none => .fail)
      | _, _, _ => .fail)
    | _ => .fail
  | .slice t x lo hi mx => match E.ti t with
    | some ⟨.array n e, _, _, _⟩ => sliceAT E H n e (evS E s x) (lo.map (evS E s)) (hi.map (evS E s)) (mx.map (evS E s))
    | _ => sliceT E H t (evS E s x) (lo.map (evS E s)) (hi.map (evS E s)) (mx.map (evS E s))
  | .sliceToArrayPointer t x => retT H (arrT E t (evS E s x))
  | .fieldAddr t x f => retT H (.opt (fieldAddrT E t (evS E s x) f))
  | .field t x f => retT H (.opt (fieldT E t (evS E s x) f))
  | .indexAddr t x i => retT H (indexAddrT E H t (evS E s x) (evS E s i))
  | .index t x i => retT H (indexT E t (evS E s x) (evS E s i))
  | .extract x i => (match evS E s x with | .tup vs => retT H (.opt vs[i]?) | _ => .fail)
  | .lookup t m x ok => retT H (lookT E t ok (evS E s m) (evS E s x))
  | .makeFunc (.func f) first caps => .leaf (.fn f (first.toList.map (evS E s)) (caps.toList.map (evS E s)), H)
  | .call c => callT E M k H s c
  | _ => .fail

/-! ### regions -/

def stepT (E : Env) (M : Mdl U) (ops : Array Oper) (k i : Nat) (st : SSt U) : Tr U (SSt U) :=
  match ops[i]? with
  | none => .leaf st
  | some o =>
    let run (st : SSt U) : Tr U (SSt U) := (opT E M k st.H st.s o).andThen fun r => .leaf ⟨setS st.s o.dst r.1, r.2⟩
    let skip (st : SSt U) : Tr U (SSt U) := .leaf ⟨setS st.s o.dst .no, st.H⟩
    match o.guard with
    | none => run st
    | some (j, want) =>
      match (ops[j]?).bind (·.dst) with
      | none => .fail
      | some d => (match st.s.getD d .und with
        | .no => skip st
        | .lit (.bool true) => if want then run st else skip st
        | .lit (.bool false) => if want then skip st else run st
        | .sb b => .br b (if want then run ⟨st.s.set d (.lit (.bool true)), st.H⟩ else skip ⟨st.s.set d (.lit (.bool true)), st.H⟩)
            (if want then skip ⟨st.s.set d (.lit (.bool false)), st.H⟩ else run ⟨st.s.set d (.lit (.bool false)), st.H⟩)
        | _ => .fail)

def opsT (E : Env) (M : Mdl U) (ops : Array Oper) : List Nat → SSt U → Tr U (SSt U)
  | [], st => .leaf st
  | i :: rest, st => (stepT E M ops st.H.length i st).andThen (opsT E M ops rest)

def ref1S : SV U.Ty → List Nat
  | .lsl id _ _ _ => [id]
  | .all id _ => [id]
  | .ptr id _ _ _ => [id]
  | .raw v => ref1 v
  | _ => []
def refsAS : SV U.Ty → List Nat
  | .agg cs => cs.flatMap ref1S
  | .raw v => refsA v
  | v => ref1S v
def refsS : SV U.Ty → List Nat
  | .agg cs => cs.flatMap ref1S
  | .fn _ a b => (a ++ b).flatMap refsAS
  | .raw v => refsV v
  | v => ref1S v
def isFnS : SV U.Ty → Bool | .fn _ _ _ => true | .raw v => isFnV v | _ => false
def quietS (E : Env) : SV U.Ty → Bool
  | .fn g a b => valF E g && (a ++ b).all (fun v => !isFnS v)
  | _ => false
def quietT (E : Env) (s : List (SV U.Ty)) (o : Oper) : Bool :=
  match o.op with
  | .call c => (match c.callee with
    | .value (.tmp t) => !(E.quiet && o.type != 0) || quietS E (s.getD t .und)
    | _ => true)
  | _ => true
def refsOS (E : Env) (s : List (SV U.Ty)) (o : Oper) : List Nat := o.op.operands.toList.flatMap fun x => refsS (evS E s x)

def isDead : SBox U.Ty → Bool | .dead => true | _ => false

def addrOfS (E : Env) (s : List (SV U.Ty)) (o : Oper) : SV U.Ty := match writesAt o with | some a => evS E s a | _ => .no
def lateAtS (H : SHeap U) (a : SV U.Ty) (k : Nat) : Bool := match a with
  | .ptr id _ _ tot => id == k && (match H[id]? with | some (.var _ _ _) => tot == 1 | _ => false)
  | .all id _ => id == k && (match H[id]? with | some (.row _ _ _) => true | _ => false)
  | _ => false
def tgtNoS (base : Nat) (s0 : List (SV U.Ty)) : Nat ⊕ Nat → Option Nat
  | .inl j => some (base + j)
  | .inr d => match s0.getD d .und with | .ptr id _ _ _ => some id | .all id _ => some id | _ => none
def lateT (E : Env) (ms : List Nat) (lt : List (Nat × (Nat ⊕ Nat))) (s0 : List (SV U.Ty)) (base i : Nat) (s : List (SV U.Ty)) (H : SHeap U) (o : Oper) : Bool :=
  lt.all fun p => match tgtNoS base s0 p.2 with
    | none => false
    | some k => if p.1 = i then lateAtS H (addrOfS E s o) k else !needs E o || (linked ms p.1 i || !(refsOS E s o).contains k)

def ldNoS (E : Env) (ops : Array Oper) (base : Nat) (s0 : List (SV U.Ty)) (o : Oper) : Option Nat := match o.op with
  | .load _ (.tmp d) => (rootOf E ops 12 d).bind (tgtNoS base s0)
  | _ => none
def appLdS (E : Env) (ops : Array Oper) (ms : List Nat) (lt : List (Nat × (Nat ⊕ Nat))) (s0 : List (SV U.Ty)) (base i : Nat) (s : List (SV U.Ty)) (o : Oper) : Bool :=
  (List.range ops.size).all fun j => match ops[j]? with
    | none => true
    | some oj => linked ms i j || ((!(isApp o && isLd oj) || (lt.any (fun p => p.1 == i) || (match ldNoS E ops base s0 oj, addrOfS E s o with | some n, .all id _ => id != n | _, _ => false))) &&
        (!(isLd o && isApp oj) || (lt.any (fun p => p.1 == j) || (match ldNoS E ops base s0 o with | some n => (refsOS E s o).all (fun i => i == n) | none => false))))
def noRowS : SBox U.Ty → Bool | .dead => true | .var _ _ _ => true | _ => false
def alOKS (ops : Array Oper) (base : Nat) (H : SHeap U) : Bool :=
  (List.range ops.size).all fun j => match ops[j]? with | some oj => !isAl oj || (match H[base + j]? with | some b => noRowS b | none => false) | none => true

def stepRT (E : Env) (M : Mdl U) (ops : Array Oper) (ms : List Nat) (lt : List (Nat × (Nat ⊕ Nat))) (s0 : List (SV U.Ty)) (base m i : Nat) (st : SSt U) : Tr U (SSt U) :=
  match ops[i]? with
  | none => .leaf st
  | some o =>
    .when ((refsOS E st.s o).all (fun id => decide (id < base) || (decide (base + m ≤ id) && freeAt E ops ms i) || (decide (id < base + m) && (ms.getD i 0).testBit (id - base))) = true) (.when ((quietT E st.s o && appLdS E ops ms lt s0 base i st.s o && lateT E ms lt s0 base i st.s st.H o && (!capC E o || (decide (base + m ≤ st.H.length) && (!rowC E o || alOKS ops base st.H)))) = true)
      (if clsOf E o = .a then
        match st.H[base + i]? with
        | some b => if isDead b then stepT E M ops (base + i) i st else .fail
        | none => .fail
       else stepT E M ops st.H.length i st))

def stepsRT (E : Env) (M : Mdl U) (ops : Array Oper) (ms : List Nat) (lt : List (Nat × (Nat ⊕ Nat))) (s0 : List (SV U.Ty)) (base m : Nat) : List Nat → SSt U → Tr U (SSt U)
  | [], st => .leaf st
  | i :: rest, st => (stepRT E M ops ms lt s0 base m i st).andThen (stepsRT E M ops ms lt s0 base m rest)

def drawT (E : Env) (M : Mdl U) (ops : Array Oper) (st : SSt U) : Tr U (SSt U) :=
  let m := if ops.any (fun o => decide (clsOf E o = .a)) then ops.size else 0
  stepsRT E M ops (masksD [] ops.toList) (lates E ops) st.s st.H.length m (List.range ops.size) ⟨st.s, st.H ++ List.replicate m .dead⟩

end

end Go.Proofs.YtpikcdlhgiooaaaGreat.Le

/-
  Symbolic values stand for values: freezing, reading, writing.
-/
namespace Go.Proofs.YtpikcdlhgiooaaaGreat.Le
set_option linter.unusedVariables false
set_option linter.unusedSimpArgs false

structure UnivOK (U : Univ) (E : Env) : Prop where
  encS : ∀ t a, toV U (U.encS t a) = U.enc t a
  dec : ∀ t v a, U.decS t v = some a → retype (E.rows t) (toV U v) = U.enc t a
  cells : ∀ t a, (U.enc t a).cells = toVs U (cellsS (U.encS t a))
  nr : ∀ t a, noRef (U.enc t a) = true
  inj : ∀ t ∈ U.keys, ∀ a b, U.enc t a = U.enc t b → a = b

section
variable {U : Univ}

theorem toVs_map (xs : List (SV U.Ty)) : toVs U xs = xs.map (toV U) := by
  induction xs with
  | nil => rfl
  | cons x xs ih => simp [toVs, ih]

theorem toVs_getD (s : List (SV U.Ty)) (t : Nat) : (toVs U s).getD t .und = toV U (s.getD t .und) := by
  rw [toVs_map]
  simp only [List.getD, List.getElem?_map]
  cases s[t]? <;> rfl

theorem toV_ofV1 (v : V) : toV U (ofV1 U v) = v := by
  unfold ofV1
  split <;> rfl

theorem toV_ofV (v : V) : toV U (ofV U v) = v := by
  unfold ofV
  split
  · rename_i cs
    simp only [toV, toVs_map, List.map_map, V.agg.injEq]
    conv => rhs; rw [← List.map_id cs]
    apply List.map_congr_left
    intro x _
    exact toV_ofV1 x
  · exact toV_ofV1 _

theorem ev_toV (E : Env) (s : List (SV U.Ty)) (x : Operand) : ev E (toVs U s) x = toV U (evS E s x) := by
  cases x with
  | tmp t => exact toVs_getD s t
  | const v => simp only [ev, evS, toV_ofV]
  | func f => rfl
  | global g => simp only [ev, evS]; cases E.glob g <;> rfl

theorem evs_toV (E : Env) (s : List (SV U.Ty)) (xs : List Operand) : xs.map (ev E (toVs U s)) = toVs U (xs.map (evS E s)) := by
  rw [toVs_map (xs.map (evS E s)), List.map_map]
  apply List.map_congr_left
  intro x _
  exact ev_toV E s x

theorem set_toV (s : List (SV U.Ty)) (d : Option Tmp) (v : SV U.Ty) : toVs U (setS s d v) = setSlot (toVs U s) d (toV U v) := by
  unfold setS setSlot
  cases d with
  | none => rfl
  | some t => simp only [toVs_map, List.map_set]

theorem toH_length (H : SHeap U) : (toH U H).length = H.length := by simp [toH]
theorem toH_get (H : SHeap U) (i : Nat) : (toH U H)[i]? = (H[i]?).map (toBox U) := by simp [toH]
theorem toH_set (H : SHeap U) (i : Nat) (b : SBox U.Ty) : toH U (H.set i b) = (toH U H).set i (toBox U b) := by simp [toH, List.map_set]
theorem toH_place (H : SHeap U) (k : Nat) (b : SBox U.Ty) : toH U (placeS H k b) = place (toH U H) k (toBox U b) := by
  unfold placeS place
  rw [toH_length]
  split
  · exact toH_set H k b
  · simp [toH]

theorem map_congr_get {α β : Type} {f g : α → β} (l : List α) (h : ∀ x, f x = g x) : l.map f = l.map g := by
  rw [funext h]

theorem bumpBox_ok (b : SBox U.Ty) : toBox U (bumpBox b) = { toBox U b with floor := if (toBox U b).row then (toBox U b).xs.length else (toBox U b).floor } := by
  cases b <;> simp [bumpBox, toBox, newBox, deadBox, goneBox]

theorem okS_okV {x : SV U.Ty} (h : okS x = true) : okV (toV U x) = true := by
  cases x <;> simp_all [okS, toV, okV]
  grind

theorem cells_toV {x : SV U.Ty} (h : okS x = true) : (toV U x).cells = toVs U (cellsS x) := by
  cases x <;> simp_all [okS, toV, V.cells, cellsS, toVs]
  grind

/-! ### trees -/

theorem runs_andThen {L M : Type} (T : Tr U L) (f : L → Tr U M) (y : M) : (T.andThen f).Runs y ↔ ∃ x, T.Runs x ∧ (f x).Runs y := by
  induction T with
  | leaf l => simp [Tr.andThen, Tr.Runs]
  | br c a b iha ihb =>
    simp only [Tr.andThen, Tr.Runs, iha, ihb]
    grind
  | bind t o k ih =>
    simp only [Tr.andThen, Tr.Runs, ih]
    grind
  | chk c a ih =>
    simp only [Tr.andThen, Tr.Runs, ih]
    grind
  | fail => simp [Tr.andThen, Tr.Runs]

theorem runs_opt {L : Type} {o : Option L} {x : L} : (Tr.opt (U := U) o).Runs x ↔ o = some x := by
  cases o <;> simp [Tr.opt, Tr.Runs]

theorem runs_when {L : Type} {p : Prop} [Decidable p] {a : Tr U L} {x : L} : (Tr.when p a).Runs x ↔ p ∧ a.Runs x := by
  unfold Tr.when
  split <;> simp_all [Tr.Runs]

theorem rowAt_runs {L : Type} {H : SHeap U} {id tot : Nat} {k : (t : Nat) → List (U.Ty t) → Option Nat → Tr U L} {y : L} (h : (rowAt H id tot k).Runs y) :
    ∃ t xs fl, H[id]? = some (.row t xs fl) ∧ xs.length = tot ∧ (k t xs fl).Runs y ∧ boxAt (toH U H) id tot = some (toBox U (.row t xs fl)) := by
  unfold rowAt at h
  split at h
  · rename_i t xs fl hb
    simp only [Tr.Runs, beq_iff_eq] at h
    refine ⟨t, xs, fl, hb, h.1, h.2, ?_⟩
    unfold boxAt
    rw [toH_get, hb]
    simp [toBox, h.1]
  · simp [Tr.Runs] at h

/-! ### freezing -/

theorem frz0S_ok {H : SHeap U} {x y : SV U.Ty} (h : (frz0S H x).Runs y) : frz0 (toH U H) (toV U x) = some (toV U y) := by
  unfold frz0S at h
  split at h <;> (try (simp only [Tr.Runs] at h; subst h; rfl))
  · obtain ⟨t, xs, fl, h1, h2, h3, h4⟩ := rowAt_runs h
    simp only [Tr.Runs] at h3
    subst h3
    subst h2
    simp only [toV, frz0, h4]
    simp only [toBox, Nat.zero_add, Nat.le_refl, decide_true, Bool.and_self, if_true, List.drop_zero, Option.some.injEq, V.sl.injEq, true_and]
    exact List.take_of_length_le (by simp)
  · obtain ⟨t, xs, fl, h1, h2, h3, h4⟩ := rowAt_runs h
    simp only [Tr.Runs, decide_eq_true_eq] at h3
    obtain ⟨h3, rfl⟩ := h3
    simp only [toV, frz0, h4]
    simp [toBox, h3, List.map_take, List.map_drop]
  · simp [Tr.Runs] at h

theorem frzLS_ok {H : SHeap U} : ∀ {xs ys : List (SV U.Ty)}, (frzLS H xs).Runs ys → frzL (toH U H) (toVs U xs) = some (toVs U ys) := by
  intro xs
  induction xs with
  | nil => intro ys h; simp only [frzLS, Tr.Runs] at h; subst h; rfl
  | cons x xs ih =>
    intro ys h
    simp only [frzLS, runs_andThen, Tr.Runs] at h
    obtain ⟨w, h1, ws, h2, rfl⟩ := h
    simp only [toVs, frzL, frz0S_ok h1, ih h2]

theorem frzS_ok {H : SHeap U} {x y : SV U.Ty} (h : (frzS H x).Runs y) : frz (toH U H) (toV U x) = some (toV U y) := by
  unfold frzS at h
  split at h
  · rename_i cs
    simp only [runs_andThen, Tr.Runs] at h
    obtain ⟨ws, h1, rfl⟩ := h
    simp only [toV, frz, frzLS_ok h1, Option.map_some]
  · rename_i hne
    have := frz0S_ok h
    unfold frz
    split
    · rename_i cs hcs
      exfalso
      cases x <;> simp_all [toV, frz0S, Tr.Runs]
    · exact this

theorem frzAllS_ok {H : SHeap U} : ∀ {xs ys : List (SV U.Ty)}, (frzAllS H xs).Runs ys → frzAll (toH U H) (toVs U xs) = some (toVs U ys) := by
  intro xs
  induction xs with
  | nil => intro ys h; simp only [frzAllS, Tr.Runs] at h; subst h; rfl
  | cons x xs ih =>
    intro ys h
    simp only [frzAllS, runs_andThen, Tr.Runs] at h
    obtain ⟨w, h1, ws, h2, rfl⟩ := h
    simp only [toVs, frzAll, frzS_ok h1, ih h2]

theorem ids1_toV (x : SV U.Ty) : ids1 (toV U x) = ids1S x := by
  cases x <;> simp [toV, ids1, ids1S]
theorem idsA_toV (x : SV U.Ty) : idsA (toV U x) = idsAS x := by
  cases x <;> simp [toV, idsA, idsAS, ids1S, ids1]
  rename_i cs
  rw [toVs_map, List.flatMap_map]
  simp [ids1_toV]
theorem idsAs_toV (xs : List (SV U.Ty)) : (toVs U xs).flatMap idsA = xs.flatMap idsAS := by
  rw [toVs_map, List.flatMap_map]
  simp [idsA_toV]

theorem ref1_toV (x : SV U.Ty) : ref1 (toV U x) = ref1S x := by
  cases x <;> simp [toV, ref1, ref1S]
theorem refsA_toV (x : SV U.Ty) : refsA (toV U x) = refsAS x := by
  cases x <;> simp [toV, refsA, refsAS, ref1S, ref1]
  rename_i cs
  rw [toVs_map, List.flatMap_map]
  simp [ref1_toV]
theorem refsV_toV (x : SV U.Ty) : refsV (toV U x) = refsS x := by
  cases x with
  | agg cs =>
    simp only [toV, refsV, refsS]
    rw [toVs_map, List.flatMap_map]
    simp [ref1_toV]
  | fn f a b =>
    simp only [toV, refsV, refsS]
    rw [toVs_map, toVs_map, ← List.map_append, List.flatMap_map]
    simp [refsA_toV]
  | _ => simp [toV, refsV, refsS, ref1S, ref1]

/-- What is bumped is a row that was looked at. -/
def rowsIn (H : SHeap U) (ids : List Nat) : Prop := ∀ i ∈ ids, ∀ b, H[i]? = some b → ∃ t xs fl, b = .row t xs fl

theorem bumpS_ok (H : SHeap U) : ∀ (ids : List Nat), (∀ i ∈ ids, ∃ t xs fl, H[i]? = some (.row t xs fl)) → toH U (bumpS H ids) = bump (toH U H) ids := by
  intro ids
  induction ids generalizing H with
  | nil => intro _; rfl
  | cons i is ih =>
    intro h
    simp only [bumpS, bump]
    have hmod : toH U (H.modify i bumpBox) = (toH U H).modify i fun b => { b with floor := b.xs.length } := by
      apply List.ext_getElem?
      intro j
      simp only [toH, List.getElem?_map, List.getElem?_modify]
      by_cases hij : i = j
      · subst hij
        obtain ⟨t, xs, fl, hb⟩ := h i (by simp)
        simp [hb, bumpBox, toBox]
      · simp [hij]
    rw [ih, hmod]
    intro j hj
    obtain ⟨t, xs, fl, hb⟩ := h j (by simp [hj])
    by_cases hij : i = j
    · subst hij
      exact ⟨t, xs, some xs.length, by simp [List.getElem?_modify, hb, bumpBox]⟩
    simp_all

theorem frz0S_rows {H : SHeap U} {x y : SV U.Ty} (h : (frz0S H x).Runs y) : ∀ i ∈ ids1S x, ∃ t xs fl, H[i]? = some (.row t xs fl) := by
  intro i hi
  unfold frz0S at h
  split at h <;> (try (simp [ids1S] at hi))
  · obtain ⟨t, xs, fl, h1, _⟩ := rowAt_runs h
    simp_all
  · obtain ⟨t, xs, fl, h1, _⟩ := rowAt_runs h
    simp_all
  · simp [Tr.Runs] at h

theorem frzLS_rows {H : SHeap U} : ∀ {xs ys : List (SV U.Ty)}, (frzLS H xs).Runs ys → ∀ i ∈ xs.flatMap ids1S, ∃ t xs fl, H[i]? = some (.row t xs fl) := by
  intro xs
  induction xs with
  | nil => simp_all
  | cons x xs ih =>
    intro ys h i hi
    simp only [frzLS, runs_andThen, Tr.Runs] at h
    obtain ⟨w, h1, ws, h2, rfl⟩ := h
    simp only [List.flatMap_cons, List.mem_append] at hi
    rcases hi with hi | hi
    · exact frz0S_rows h1 i hi
    · exact ih h2 i hi

theorem frzS_rows {H : SHeap U} {x y : SV U.Ty} (h : (frzS H x).Runs y) : ∀ i ∈ idsAS x, ∃ t xs fl, H[i]? = some (.row t xs fl) := by
  unfold frzS at h
  split at h
  · simp only [runs_andThen, Tr.Runs] at h
    obtain ⟨ws, h1, rfl⟩ := h
    exact frzLS_rows h1
  · rename_i hne
    intro i hi
    refine frz0S_rows h i ?_
    cases x <;> simp_all [idsAS, ids1S]
    simp [frz0S, Tr.Runs] at h

theorem frzAllS_rows {H : SHeap U} : ∀ {xs ys : List (SV U.Ty)}, (frzAllS H xs).Runs ys → ∀ i ∈ xs.flatMap idsAS, ∃ t xs fl, H[i]? = some (.row t xs fl) := by
  intro xs
  induction xs with
  | nil => simp_all
  | cons x xs ih =>
    intro ys h i hi
    simp only [frzAllS, runs_andThen, Tr.Runs] at h
    obtain ⟨w, h1, ws, h2, rfl⟩ := h
    simp only [List.flatMap_cons, List.mem_append] at hi
    rcases hi with hi | hi
    · exact frzS_rows h1 i hi
    · exact ih h2 i hi

/-! ### reading -/

theorem partS_ok (cs : List (SV U.Ty)) (off n : Nat) (b : Bool) : partOf (toVs U cs) off n b = (partS cs off n b).map (toV U) := by
  unfold partOf partS
  simp only [toVs_map, List.length_map]
  split
  · split
    · simp [toV, toVs_map, List.map_take, List.map_drop]
    · rfl
  · simp

theorem length_toVs (cs : List (SV U.Ty)) : (toVs U cs).length = cs.length := by simp [toVs_map]

theorem spliceS_ok {x : SV U.Ty} {off : Nat} {cs : List (SV U.Ty)} {y : SV U.Ty} (h : spliceS x off cs = some y) : spliceV (toV U x) off (toVs U cs) = some (toV U y) := by
  unfold spliceS at h
  split at h
  · rename_i ds
    split at h
    · rename_i hle
      simp only [Option.some.injEq] at h
      subst h
      simp only [toV, spliceV, length_toVs, hle, if_true]
      simp [toVs_map, List.map_take, List.map_drop]
    · cases h
  · cases h
  · rename_i h1 h2
    split at h
    · rename_i c
      simp only [Option.some.injEq] at h
      subst h
      have : ∀ ds, toV U x ≠ .agg ds := by
        intro ds hds
        cases x <;> simp_all [toV]
      unfold spliceV
      split
      · simp_all
      · simp [toVs]
    · cases h

theorem boxAt_var {H : SHeap U} {id : Nat} {e n : Nat} {x : SV U.Ty} (h : H[id]? = some (.var e n x)) : boxAt (toH U H) id 1 = some (newBox false false e n [toV U x]) := by
  unfold boxAt
  rw [toH_get, h]
  simp [toBox, newBox]

theorem boxAt_row {H : SHeap U} {id tot : Nat} {t : Nat} {xs : List (U.Ty t)} {fl : Option Nat} (h : H[id]? = some (.row t xs fl)) (hl : xs.length = tot) : boxAt (toH U H) id tot = some (toBox U (.row t xs fl)) := by
  unfold boxAt
  rw [toH_get, h]
  simp [toBox, hl]

theorem decAll_ok {E : Env} (hU : UnivOK U E) {e : Nat} : ∀ {vs : List (SV U.Ty)} {ys : List (U.Ty e)}, decAll e vs = some ys → (toVs U vs).map (retype (E.rows e)) = ys.map (U.enc e) ∧ ∀ v ∈ vs, okS v = true := by
  intro vs
  induction vs with
  | nil => intro ys h; simp only [decAll, Option.some.injEq] at h; subst h; simp [toVs]
  | cons v vs ih =>
    intro ys h
    simp only [decAll] at h
    split at h
    · rename_i a as h1 h2 h3
      simp only [Option.some.injEq] at h
      subst h
      obtain ⟨i1, i2⟩ := ih h3
      refine ⟨by simp only [toVs, List.map_cons, i1, hU.dec _ _ _ h2], ?_⟩
      simp_all
    · cases h

theorem sel_ok {E : Env} (hU : UnivOK U E) {t : Nat} {cs : List V} {ys : List (U.Ty t)} {j : Nat} {x : U.Ty t} (hd : decAll t (cs.map (ofV1 U)) = some ys) (hl : cs.all isLitV = true) (hx : ys[j]? = some x) : cs[j]? = some (toV U (U.encS t x)) := by
  obtain ⟨h1, -⟩ := decAll_ok hU hd
  have h2 : toVs U (cs.map (ofV1 U)) = cs := by
    rw [toVs_map, List.map_map]
    exact (List.map_congr_left fun v _ => toV_ofV1 v).trans (List.map_id cs)
  rw [h2] at h1
  have h3 := congrArg (·[j]?) h1
  simp only [List.getElem?_map, hx, Option.map_some] at h3
  cases hc : cs[j]? with
  | none => simp [hc] at h3
  | some v =>
    simp only [hc, Option.map_some, Option.some.injEq] at h3
    have hv := List.all_eq_true.1 hl v (List.mem_of_getElem? hc)
    cases v with
    | lit z => rw [hU.encS, ← h3]; rfl
    | _ => simp [isLitV] at hv

theorem loadT_ok {E : Env} (hU : UnivOK U E) {H : SHeap U} {t : TypeId} {a y : SV U.Ty} (h : (loadT E H t a).Runs y) : loadD E (toH U H) t (toV U a) = some (toV U y) := by
  unfold loadT at h
  split at h
  · simp [Tr.Runs] at h
  · rename_i i hi
    unfold loadD
    rw [hi]
    simp only
    split at h
    · rename_i et xs j off
      simp only [Tr.Runs, runs_opt] at h
      obtain ⟨x, hx, hp⟩ := h
      simp only [toV, readAt, List.getElem?_map, hx, Option.map_some]
      rw [hU.cells, partS_ok, hp]
      rfl
    · rename_i id j off tot
      split at h
      · rename_i e n x hb
        simp only [runs_when, runs_opt] at h
        obtain ⟨⟨rfl, rfl, hok⟩, hp⟩ := h
        simp only [toV, boxAt_var hb, newBox, readAt, List.getElem?_cons_zero]
        rw [cells_toV hok, partS_ok, hp]
        rfl
      · rename_i et xs fl hb
        simp only [Tr.Runs, runs_opt, beq_iff_eq] at h
        obtain ⟨hl, x, hx, hp⟩ := h
        simp only [toV, boxAt_row hb hl, toBox, readAt, List.getElem?_map, hx, Option.map_some]
        rw [hU.cells, partS_ok, hp]
        rfl
      · simp [Tr.Runs] at h
    · rename_i e z
      simp only [runs_opt] at h
      simp only [toV, readAt, List.getElem?_cons_zero]
      rw [show (V.lit z).cells = toVs U [SV.lit z] from rfl, partS_ok, h]
      rfl
    · rename_i e cs off
      simp only [runs_opt] at h
      cases hp : partOf cs off i.size i.isAgg with
      | none => simp [hp] at h
      | some v =>
        simp only [hp, Option.map_some, Option.some.injEq] at h
        subst h
        simp only [toV, readAt, List.getElem?_cons_zero, V.cells, hp, toV_ofV]
    · rename_i d cs off
      split at h
      · rename_i ys hys
        simp only [runs_when, Tr.Runs] at h
        obtain ⟨⟨h1, h2, h3⟩, x, hx, rfl⟩ := h
        simp only [toV, readAt, List.getElem?_cons_zero, V.cells, partOf, h2, sel_ok hU hys h3 hx, Bool.false_eq_true, if_false]
      · simp [Tr.Runs] at h
    · simp [Tr.Runs] at h

theorem storeT_ok {E : Env} (hU : UnivOK U E) {H H' : SHeap U} {t : TypeId} {a v : SV U.Ty} (h : (storeT E H t a v).Runs H') : storeD E (toH U H) t (toV U a) (toV U v) = some (toH U H') := by
  unfold storeT at h
  split at h
  · simp [Tr.Runs] at h
  · rename_i i hi
    unfold storeD
    rw [hi]
    simp only
    split at h
    · rename_i id j off tot
      split at h
      · rename_i e n x hb
        simp only [runs_when] at h
        obtain ⟨⟨⟨rfl, rfl⟩, hl, hok, hokx⟩, h⟩ := h
        split at h
        · rename_i x' hx'
          simp only [runs_when, Tr.Runs] at h
          obtain ⟨hok', rfl⟩ := h
          simp only [toV, boxAt_var hb, newBox, List.getElem?_cons_zero]
          rw [cells_toV hok, length_toVs, hl, spliceS_ok hx', okS_okV hok]
          simp [okS_okV hok', toH_set, toBox, newBox]
        · simp [Tr.Runs] at h
      · rename_i et xs fl hb
        simp only [runs_when, Tr.Runs, runs_andThen, Bool.and_eq_true, beq_iff_eq, decide_eq_true_eq] at h
        obtain ⟨⟨hl, hok, hni⟩, ⟨hlen, hfl⟩, x, hx, v', hv', h⟩ := h
        split at h
        · rename_i x' hx'
          split at h
          · rename_i y hy
            simp only [runs_when, Tr.Runs] at h
            obtain ⟨⟨hok1, hok2⟩, rfl⟩ := h
            simp only [toV, boxAt_row hb hlen, toBox, List.getElem?_map, hx, Option.map_some]
            rw [cells_toV hok, length_toVs, hl, okS_okV hok]
            have hc : (frz (toH U H) (toV U v)) = some (toV U v') := frzS_ok hv'
            have hsp := spliceS_ok hx'
            rw [hU.encS] at hsp
            have hdec := hU.dec et x' y hy
            have hokr : okV (U.enc et y) = true := by rw [← hdec, retype_ok]; exact okS_okV hok2
            rw [hc]
            simp only [cells_toV hok1, hsp, Option.map_some, hdec, hokr, okS_okV hok1, idsA_toV, hni, beq_self_eq_true, Bool.and_self, Bool.and_true, decide_eq_true hfl, if_true, Bool.not_true, Bool.or_self, Bool.false_eq_true, if_false]
            rw [toH_set, bumpS_ok H _ (frzS_rows hv')]
            simp [toBox, List.map_set]
          · simp [Tr.Runs] at h
        · simp [Tr.Runs] at h
      · simp [Tr.Runs] at h
    · simp [Tr.Runs] at h

end

end Go.Proofs.YtpikcdlhgiooaaaGreat.Le

