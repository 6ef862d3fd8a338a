/-
  An evaluator for the model's code over pure values: one operation is sound.
-/
import Derived.Test.YtcjccaonfgcakaaLe14
namespace Go.Proofs.Ytcjccaonfgcakaa.Le
set_option linter.unusedVariables false
open Go.RowKit (Below)

theorem un_ok {P : Program} {σ w} {op : UnOp} {x r : V} {v : Value} (hx : Reps σ w [x] [v]) (h : unD op x = some r) : ∃ u, (Op.unary op v).run P w = .ok u w ∧ Reps σ w [r] [u] := by
  unfold unD at h
  split at h
  · simp only [Option.some.injEq] at h
    subst h
    cases hx with
    | lit hl _ => exact ⟨_, by simp [Op.unary, Op.intArith], .lit (show (Lit.int _ _).wf = true from wf_wrap _ _) .nil⟩
  · simp only [Option.some.injEq] at h
    subst h
    cases hx with
    | lit hl _ => exact ⟨_, by simp [Op.unary, Op.intBits, bits], .lit (show (Lit.int _ _).wf = true from wf_bits _ _ _ _) .nil⟩
  · simp only [Option.some.injEq] at h
    subst h
    cases hx with
    | lit hl _ => exact ⟨_, by simp [Op.unary], .lit rfl .nil⟩
  · cases h

theorem bin_ok {E : Env} {P : Program} {σ w} (hE : EnvOK E) (hP : E.P = P) {op : BinOp} {t : TypeId} {x y r : V} {vx vy : Value} (ox oy : Operand) (hx : Reps σ w [x] [vx]) (hy : Reps σ w [y] [vy]) (h : binD E op t x y = some r) :
    ∃ u, (eqGuard op t ox oy vx vy).run P w = .ok () w ∧ (binOp op t vx vy).run P w = .ok u w ∧ Reps σ w [r] [u] := by
  unfold binD at h
  split at h
  · rename_i k a j b
    cases hx with
    | lit l1 _ =>
    cases hy with
    | lit l2 _ =>
    cases hs : shiftOp .shl k a b with
    | none => simp [hs] at h
    | some q =>
      simp only [hs, Option.map_some, Option.some.injEq] at h
      subst h
      obtain ⟨h1, h2⟩ := shift_ok (P := P) (w := w) (t := t) (j := j) l1 (.inl rfl) hs
      exact ⟨q, eqGuard_plain _ _ _ _ _ _ (by simp) (by simp), h1, .lit h2 .nil⟩
  · rename_i k a j b
    cases hx with
    | lit l1 _ =>
    cases hy with
    | lit l2 _ =>
    cases hs : shiftOp .shr k a b with
    | none => simp [hs] at h
    | some q =>
      simp only [hs, Option.map_some, Option.some.injEq] at h
      subst h
      obtain ⟨h1, h2⟩ := shift_ok (P := P) (w := w) (t := t) (j := j) l1 (.inr rfl) hs
      exact ⟨q, eqGuard_plain _ _ _ _ _ _ (by simp) (by simp), h1, .lit h2 .nil⟩
  · rename_i k a j b hn1 hn2
    split at h
    · rename_i hk
      subst hk
      cases hx with
      | lit l1 _ =>
      cases hy with
      | lit l2 _ =>
      cases hs : intOp op k a b with
      | none => simp [hs] at h
      | some q =>
        simp only [hs, Option.map_some, Option.some.injEq] at h
        subst h
        obtain ⟨h1, h2⟩ := int_ok (P := P) (w := w) (t := t) l1 ⟨hn1, hn2⟩ hs
        exact ⟨q, eqGuard_plain _ _ _ _ _ _ (by simp) (by simp), h1, .lit h2 .nil⟩
    · cases h
  · rename_i a b
    cases hx with
    | lit l1 _ =>
    cases hy with
    | lit l2 _ =>
    cases hs : strOp op a b with
    | none => simp [hs] at h
    | some q =>
      simp only [hs, Option.map_some, Option.some.injEq] at h
      subst h
      obtain ⟨h1, h2⟩ := str_ok (P := P) (w := w) (t := t) hs
      exact ⟨q, eqGuard_plain _ _ _ _ _ _ (by simp) (by simp), h1, .lit h2 .nil⟩
  · split at h
    · rename_i hb
      have hu : P.underlying t = some .bool := by rw [← hP]; exact hE.isBool t hb
      simp only [Option.some.injEq] at h
      subst h
      cases hx with
      | lit l1 _ =>
      cases hy with
      | lit l2 _ =>
      exact ⟨_, eqGuard_plain _ _ _ _ _ _ (by simp) (by simp), by simp [binOp, run_equal_bool w t _ _ hu], .lit rfl .nil⟩
    · cases h
  · split at h
    · rename_i hb
      have hu : P.underlying t = some .bool := by rw [← hP]; exact hE.isBool t hb
      simp only [Option.some.injEq] at h
      subst h
      cases hx with
      | lit l1 _ =>
      cases hy with
      | lit l2 _ =>
      exact ⟨_, eqGuard_plain _ _ _ _ _ _ (by simp) (by simp), by simp [binOp, run_equal_bool w t _ _ hu], .lit rfl .nil⟩
    · cases h
  · rename_i xs ys
    split at h
    · rename_i ks hf
      cases hc : eqCells ks xs ys with
      | none => simp [hc] at h
      | some q =>
        simp only [hc, Option.map_some, Option.some.injEq] at h
        subst h
        cases hx with
        | agg p1 _ _ =>
        cases hy with
        | agg q1 _ _ =>
        obtain ⟨h1, h2⟩ := structEq_ok hE hP hf p1 q1 hc
        exact ⟨.bool q, run_eqGuard_agg w _ _ _ _ _ _ h2, by rw [run_eql_struct, h1]; rfl, .lit rfl .nil⟩
    · cases h
  · rename_i xs ys
    split at h
    · rename_i ks hf
      cases hc : eqCells ks xs ys with
      | none => simp [hc] at h
      | some q =>
        simp only [hc, Option.map_some, Option.some.injEq] at h
        subst h
        cases hx with
        | agg p1 _ _ =>
        cases hy with
        | agg q1 _ _ =>
        obtain ⟨h1, h2⟩ := structEq_ok hE hP hf p1 q1 hc
        exact ⟨.bool (!q), run_eqGuard_agg w _ _ _ _ _ _ h2, by rw [run_neq_struct, h1]; rfl, .lit rfl .nil⟩
    · cases h
  · cases h

/-! ### conversions -/

theorem bytes_reps {σ w} : ∀ {xs : List V} {us : List Value} {bs : List UInt8}, Reps σ w xs us → bytesOf xs = some bs → ∃ ns : List Int, us = ns.map (Value.int .u8) ∧ bs = ns.map fun n => UInt8.ofNat n.toNat
  | [], us, bs, h, hb => by
    cases h.nil_left
    simp only [bytesOf, Option.some.injEq] at hb
    subst hb
    exact ⟨[], rfl, rfl⟩
  | x :: xs, us, bs, h, hb => by
    obtain ⟨v, us', rfl, h1, h2⟩ := h.cons_left
    simp only [bytesOf] at hb
    split at hb
    · rename_i b bs' hbx hbs
      simp only [Option.some.injEq] at hb
      subst hb
      obtain ⟨ns, e1, e2⟩ := bytes_reps h2 hbs
      unfold byteOf at hbx
      split at hbx
      · rename_i n
        simp only [Option.some.injEq] at hbx
        subst hbx
        cases h1 with
        | lit _ _ => exact ⟨n :: ns, by simp [e1], by simp [e2]⟩
      · cases hbx
    · cases hb

theorem foldl_push (ns : List Int) (s : ByteArray) : (ns.foldl (fun r n => r.push (UInt8.ofNat n.toNat)) s) = ⟨s.data ++ (ns.map fun n => UInt8.ofNat n.toNat).toArray⟩ := by
  induction ns generalizing s with
  | nil => cases s; simp
  | cons n ns ih =>
    rw [List.foldl_cons, ih]
    congr 1
    apply Array.ext'
    simp [ByteArray.push]

theorem conv_ok {E B w0 σ H w} {P : Program} (hE : EnvOK E) (hP : E.P = P) (h : Inv B w0 σ H w) {src dst : TypeId} {x r : V} {v : Value} {H' : Heap} (hx : Reps σ w [x] [v]) (hc : convD E H src dst x = some (r, H')) :
    H' = H ∧ ∃ u, (convert src dst v).run P w = .ok u w ∧ Reps σ w [r] [u] := by
  unfold convD at hc
  split at hc
  · split at hc
    · rename_i k hk
      split at hc
      · rename_i hsrc
        simp only [Option.some.injEq, Prod.mk.injEq] at hc
        obtain ⟨rfl, rfl⟩ := hc
        have hd : P.underlying dst = some (.int k) := by rw [← hP]; exact hE.kind dst k hk
        cases hti : E.ti src with
        | none => simp [hti] at hsrc
        | some i =>
          obtain ⟨inf, d, hi, hds, _⟩ := tiOf_some (hE.ti _ _ hti)
          rw [hP] at hds
          cases hx with
          | lit l _ =>
            refine ⟨rfl, _, ?_, .lit (show (Lit.int _ _).wf = true from wf_wrap _ _) .nil⟩
            simp [convert, run_underlying hds, run_underlying hd, Conv.intToInt]
      · cases hc
    · cases hc
  · split at hc
    · rename_i hst
      simp only [Bool.and_eq_true] at hst
      simp only [Option.some.injEq, Prod.mk.injEq] at hc
      obtain ⟨rfl, rfl⟩ := hc
      have h1 : P.underlying src = some .string := by rw [← hP]; exact hE.isStr _ hst.1
      have h2 : P.underlying dst = some .string := by rw [← hP]; exact hE.isStr _ hst.2
      cases hx with
      | lit l _ =>
        refine ⟨rfl, _, ?_, .lit l .nil⟩
        simp [convert, run_underlying h1, run_underlying h2]
    · cases hc
  · split at hc
    · rename_i hn1 hn2 hst
      simp only [Bool.and_eq_true] at hst
      obtain ⟨⟨s1, s2⟩, s3⟩ := hst
      split at hc
      · rename_i xs hxs
        split at hc
        · rename_i bs hbs
          split at hc
          · rename_i hlen
            simp only [Option.some.injEq, Prod.mk.injEq] at hc
            obtain ⟨rfl, rfl⟩ := hc
            obtain ⟨us, S⟩ := src_ok h hx hxs s3
            obtain ⟨ns, e1, e2⟩ := bytes_reps S.reps hbs
            have hd : P.underlying dst = some .string := by rw [← hP]; exact hE.isStr _ s1
            obtain ⟨e, hs, he⟩ := hE.isBytes _ s2
            rw [hP] at hs he
            refine ⟨rfl, .string ⟨bs.toArray⟩, ?_, .lit (by simpa [leaf, ByteArray.size] using hlen) .nil⟩
            rcases S.val with ⟨hv, hy, hu⟩ | ⟨b, o, c, hv, hc, hcell⟩
            · subst hy
              simp only [bytesOf, Option.some.injEq] at hbs
              subst hbs
              rcases hv with rfl | ⟨a, k, rfl⟩
              · rw [run_convert_bytes_string w src dst e _ _ _ hs he hd]
                rfl
              · rw [run_convert_bytes_string w src dst e _ _ _ hs he hd]
                have hload := run_loadCells_list (P := P) w a [] (fun j v hj => by simp at hj)
                rw [run_bytesToString (P := P) w a 0 k [] (by simpa using hload)]
                rfl
            · subst hv
              rw [run_convert_bytes_string w src dst e _ _ _ hs he hd]
              have hfl : flat us = us := by
                rw [e1]
                clear e1 e2 hcell
                induction ns with
                | nil => rfl
                | cons n ns ih => simp [flat, Value.cells] at ih ⊢; exact ih
              have hll : xs.length = us.length := S.reps.length
              have hload := run_loadCells_list (P := P) w ⟨b, o, none⟩ us (fun j v hj => by rw [Addr.add_mid]; exact hcell j v (by rw [hfl]; exact hj))
              rw [run_bytesToString (P := P) w ⟨b, o, none⟩ xs.length c ns (by rw [hll, hload, e1])]
              rw [foldl_push, e2]
              simp
          · cases hc
        · cases hc
      · cases hc
    · cases hc

theorem mm_ok {P : Program} {σ w} (isMax : Bool) : ∀ {xs : List V} {vs : List Value} {k : IntKind} {a : Int} {r : V}, Reps σ w xs vs → leaf (.int k a) = true → mm isMax k a xs = some r →
    ∃ u, (vs.foldlM (if isMax then Builtin.max2 else Builtin.min2) (.int k a)).run P w = .ok u w ∧ Reps σ w [r] [u]
  | [], vs, k, a, r, h, hl, hm => by
    cases h.nil_left
    simp only [mm, Option.some.injEq] at hm
    subst hm
    exact ⟨_, rfl, .lit hl .nil⟩
  | x :: xs, vs, k, a, r, h, hl, hm => by
    obtain ⟨v, vs', rfl, h1, h2⟩ := h.cons_left
    unfold mm at hm
    split at hm
    · rename_i h3; cases h3
    · rename_i j b rest h3
      cases h3
      split at hm
      · rename_i hk
        subst hk
        cases h1 with
        | lit l1 _ =>
        cases isMax
        · simp only [Bool.false_eq_true, if_false] at hm ⊢
          obtain ⟨u, hu, hr⟩ := mm_ok (P := P) false h2 (by split <;> assumption) hm
          simp only [Bool.false_eq_true, if_false] at hu
          exact ⟨u, by rw [List.foldlM_cons]; simp only [Builtin.min2, Sem.run_bind, Sem.run_pure, Result.andThen_ok]; exact hu, hr⟩
        · simp only [if_true] at hm ⊢
          obtain ⟨u, hu, hr⟩ := mm_ok (P := P) true h2 (by split <;> assumption) hm
          simp only [if_true] at hu
          exact ⟨u, by rw [List.foldlM_cons]; simp only [Builtin.max2, Sem.run_bind, Sem.run_pure, Result.andThen_ok]; exact hu, hr⟩
      · cases hm
    · cases hm

end Go.Proofs.Ytcjccaonfgcakaa.Le
