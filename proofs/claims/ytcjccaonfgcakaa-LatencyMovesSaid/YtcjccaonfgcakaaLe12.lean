/-
  An evaluator for the model's code over pure values: addresses, parts, arithmetic, conversions.
-/
import Derived.Test.YtcjccaonfgcakaaLe11
namespace Go.Proofs.Ytcjccaonfgcakaa.Le
set_option linter.unusedVariables false
open Go.RowKit (Below)

theorem size_info {E : Env} {P : Program} (hE : EnvOK E) (hP : E.P = P) {t : TypeId} {n : Nat} (h : E.size t = some n) : ∃ inf, P.info? t = some inf ∧ inf.size = n := by
  unfold Env.size at h
  cases hti : E.ti t with
  | none => simp [hti] at h
  | some i =>
    obtain ⟨inf, d, hi, hd, q1, q2, q3, q4⟩ := tiOf_some (hE.ti _ _ hti)
    rw [hP] at hi
    simp only [hti, Option.map_some, Option.some.injEq] at h
    exact ⟨inf, hi, by rw [← q2]; exact h⟩

theorem indexAddr_ok {E B w0 σ H w} {P : Program} (hE : EnvOK E) (hP : E.P = P) (h : Inv B w0 σ H w) {t : TypeId} {x i r : V} {xv iv : Value} (hx : Reps σ w [x] [xv]) (hi : Reps σ w [i] [iv])
    (hr : indexAddrD E H t x i = some r) : ∃ u, (Instr.indexAt t xv iv).run P w = .ok u w ∧ Reps σ w [r] [u] := by
  unfold indexAddrD at hr
  split at hr
  · rename_i k n ti hti
    obtain ⟨inf, d, hin, hd, q1, q2, q3, q4⟩ := tiOf_some (hE.ti _ _ hti)
    rw [hP] at hin hd
    cases hi with
    | lit hl _ =>
      split at hr
      · -- an immutable slice
        rename_i ty el b e xs hty
        have hds := tyOf_slice (hty.symm.trans q1)
        subst hds
        split at hr
        · rename_i hc
          obtain ⟨c1, c2, c3⟩ := hc
          obtain ⟨infe, hie, hse⟩ := size_info hE hP c3
          simp only [Option.some.injEq] at hr
          subst hr
          cases hx with
          | slnil _ => simp at c2; omega
          | slemp a _ => simp at c2; omega
          | sl b' o c e' k0 k1 k2 k3 k4 k5 k6 k7 =>
            refine ⟨.pointer (some ⟨b', o + n.toNat * e, none⟩), ?_, ?_⟩
            · simp [Instr.indexAt, asIntOf, run_underlying hd, c1, c2, sizeOf, typeInfo, hie, hse, Addr.add_mid]
            · have := Reps.ept (σ := σ) (w := w) (xs := []) (vs := []) b' o e n.toNat 0 k0 k1 k2 k3 k6 .nil
              simpa using this
        · cases hr
      · rename_i ty el b e xs hty
        have hds := tyOf_slice (hty.symm.trans q1)
        subst hds
        split at hr
        · rename_i hc
          obtain ⟨c1, c2, c3⟩ := hc
          obtain ⟨infe, hie, hse⟩ := size_info hE hP c3
          simp only [Option.some.injEq] at hr
          subst hr
          cases hx with
          | sltnil _ => simp at c2; omega
          | sltemp a _ => simp at c2; omega
          | slt b' o e' k0 k1 k2 k3 k4 k5 k6 =>
            refine ⟨.pointer (some ⟨b', o + n.toNat * e, none⟩), ?_, ?_⟩
            · simp [Instr.indexAt, asIntOf, run_underlying hd, c1, c2, sizeOf, typeInfo, hie, hse, Addr.add_mid]
            · have := Reps.ept (σ := σ) (w := w) (xs := []) (vs := []) b' o e n.toNat 0 k0 k1 k2 k3 k5 .nil
              simpa using this
        · cases hr
      · rename_i ty el id off len tot hty
        have hds := tyOf_slice (hty.symm.trans q1)
        subst hds
        split at hr
        · rename_i b hb
          split at hr
          · rename_i hc
            obtain ⟨c1, c2, c3⟩ := hc
            obtain ⟨infe, hie, hse⟩ := size_info hE hP c3
            simp only [Option.some.injEq] at hr
            subst hr
            obtain ⟨L, us, m, hxl, hol, hsub, hview⟩ := lsl_view h hx hb
            rcases hview with ⟨hv, hvv, ho, hl', ht⟩ | ⟨g, cap, k', hv, hvv, hle, hmx, hk1, hk2⟩
            · subst hl'; simp at c2; omega
            · have hk : k' = off := hk2 (by omega)
              subst hk
              subst hvv
              have hLe : L.esz = b.esz := m.esz.symm
              refine ⟨.pointer (some ⟨g, (k' + n.toNat) * L.esz + 0, none⟩), ?_, .ptr g m.box (by rw [m.tot, hxl]; exact Nat.le_refl _) (fun _ => ⟨_, _, hv⟩) rfl .nil⟩
              simp [Instr.indexAt, asIntOf, run_underlying hd, c1, c2, sizeOf, typeInfo, hie, hse, Addr.add_mid, Nat.add_mul, hLe]
          · cases hr
        · cases hr
      · rename_i ty len e id j off tot hty
        have hds := tyOf_array (hty.symm.trans q1)
        subst hds
        split at hr
        · rename_i sz hsz
          obtain ⟨infe, hie, hse⟩ := size_info hE hP hsz
          split at hr
          · rename_i hc
            simp only [Option.some.injEq] at hr
            subst hr
            cases hx with
            | ptr g k1 k2 k3 k4 _ =>
              subst k4
              refine ⟨.pointer (some ⟨g, j * _ + (off + n.toNat * sz), none⟩), ?_, .ptr g k1 k2 k3 rfl .nil⟩
              simp [Instr.indexAt, Instr.sureAddr, asIntOf, run_underlying hd, hc.1, hc.2, sizeOf, typeInfo, hie, hse, Addr.add_mid, Nat.add_assoc]
          · cases hr
        · cases hr
      · rename_i ty len e d' xs j off hty
        have hds := tyOf_array (hty.symm.trans q1)
        subst hds
        split at hr
        · rename_i sz hsz
          obtain ⟨infe, hie, hse⟩ := size_info hE hP hsz
          split at hr
          · rename_i hc
            simp only [Option.some.injEq] at hr
            subst hr
            cases hx with
            | ept b o e' i' off' k0 k1 k2 k3 k4 _ =>
              refine ⟨.pointer (some ⟨b, o + j * d' + (off + n.toNat * sz), none⟩), ?_, .ept b o d' j _ k0 k1 k2 k3 k4 .nil⟩
              simp [Instr.indexAt, Instr.sureAddr, asIntOf, run_underlying hd, hc.1, hc.2, sizeOf, typeInfo, hie, hse, Addr.add_mid, Nat.add_assoc]
          · cases hr
        · cases hr
      · cases hr
  · cases hr

theorem fieldAddr_ok {E σ w} {P : Program} (hE : EnvOK E) (hP : E.P = P) {t : TypeId} {x r : V} {xv : Value} {f : Nat} (hx : Reps σ w [x] [xv])
    (hr : fieldAddrD E t x f = some r) : ∃ u, (Instr.fieldAt t xv f).run P w = .ok u w ∧ Reps σ w [r] [u] := by
  unfold fieldAddrD at hr
  split at hr
  · rename_i fs sz by' z0 hti
    obtain ⟨inf, d, hin, hd, q1, q2, q3, q4⟩ := tiOf_some (hE.ti _ _ hti)
    rw [hP] at hd
    obtain ⟨fields, hdf, hfl⟩ := tyOf_struct q1
    subst hdf
    split at hr
    · rename_i o ft hft
      have hfield : ∃ fd, fields[f]? = some fd ∧ fd.offset = o ∧ fd.type = ft := by
        rw [hfl, List.getElem?_map] at hft
        rw [← Array.getElem?_toList]
        cases hh : fields.toList[f]? with
        | none => simp [hh] at hft
        | some fd =>
          simp only [hh, Option.map_some, Option.some.injEq, Prod.mk.injEq] at hft
          exact ⟨fd, rfl, hft.1, hft.2⟩
      obtain ⟨fd, hfd, hof, htf⟩ := hfield
      split at hr
      · rename_i fsz hsz
        obtain ⟨infe, hie, hse⟩ := size_info hE hP hsz
        split at hr
        · cases hr
        · rename_i hne
          have hplace : ∀ a : Addr, (fieldPlace a fd).run P w = .ok (a.add o) w := by
            intro a
            have hz : ¬ infe.size = 0 := by rw [hse]; exact hne
            simp [fieldPlace, sizeOf, typeInfo, htf, hie, hz, hof]
          split at hr
          · rename_i id j off tot
            simp only [Option.some.injEq] at hr
            subst hr
            cases hx with
            | ptr g k1 k2 k3 k4 _ =>
              subst k4
              refine ⟨.pointer (some ⟨g, j * _ + (off + o), none⟩), ?_, .ptr g k1 k2 k3 rfl .nil⟩
              simp [Instr.fieldAt, run_underlying hd, hfd, Instr.sureAddr, hplace, Addr.add_mid, Nat.add_assoc]
          · rename_i e xs j off
            simp only [Option.some.injEq] at hr
            subst hr
            cases hx with
            | ept b o' e' i' off' k0 k1 k2 k3 k4 _ =>
              refine ⟨.pointer (some ⟨b, o' + j * e + (off + o), none⟩), ?_, .ept b o' e j _ k0 k1 k2 k3 k4 .nil⟩
              simp [Instr.fieldAt, run_underlying hd, hfd, Instr.sureAddr, hplace, Addr.add_mid, Nat.add_assoc]
          · cases hr
      · cases hr
    · cases hr
  · cases hr

/-- A part of an aggregate. -/
theorem run_part {E : Env} {P : Program} {σ w} (hE : EnvOK E) (hP : E.P = P) {t : TypeId} {i : TI} (hti : E.ti t = some i) {cs : List V} {ws : List Value} {off : Nat} {x' : V}
    (h : Reps σ w cs ws) (ho : ∀ u ∈ ws, u.oneCell' = true) (hp : partOf cs off i.size i.isAgg = some x') :
    ∃ u, (part t ws.toArray off).run P w = .ok u w ∧ Reps σ w [x'] [u] := by
  obtain ⟨inf, d, hin, hd, q1, q2, q3, q4⟩ := tiOf_some (hE.ti _ _ hti)
  rw [hP] at hin hd
  have hag := tyOf_agg q1
  rcases part_reps h ho hp with ⟨ha, hle, hres⟩ | ⟨ha, u, hu, hres⟩
  · refine ⟨_, ?_, hres⟩
    have : d.isRow = true := by rw [← hag]; exact ha
    unfold part
    rw [Sem.run_bind, run_isAgg w hd, this]
    simp only [Result.andThen_ok, if_true, Sem.run_bind, run_sizeOf w hin, Sem.run_pure]
    congr 2
    apply Array.ext'
    simp only [Array.toList_extract, List.extract]
    rw [q2]
    congr 1
    omega
  · refine ⟨u, ?_, hres⟩
    have : d.isRow = false := by rw [← hag]; exact ha
    unfold part
    rw [Sem.run_bind, run_isAgg w hd, this]
    simp [hu]

theorem field_ok {E σ w} {P : Program} (hE : EnvOK E) (hP : E.P = P) {t : TypeId} {x r : V} {xv : Value} {f : Nat} (hx : Reps σ w [x] [xv])
    (hr : fieldD E t x f = some r) : ∃ u, (Instr.field t xv f).run P w = .ok u w ∧ Reps σ w [r] [u] := by
  unfold fieldD at hr
  split at hr
  · rename_i fs sz by' z0 cs hti
    obtain ⟨inf, d, hin, hd, q1, q2, q3, q4⟩ := tiOf_some (hE.ti _ _ hti)
    rw [hP] at hd
    obtain ⟨fields, hdf, hfl⟩ := tyOf_struct q1
    subst hdf
    split at hr
    · rename_i o ft hft
      have hfield : ∃ fd, fields[f]? = some fd ∧ fd.offset = o ∧ fd.type = ft := by
        rw [hfl, List.getElem?_map] at hft
        rw [← Array.getElem?_toList]
        cases hh : fields.toList[f]? with
        | none => simp [hh] at hft
        | some fd =>
          simp only [hh, Option.map_some, Option.some.injEq, Prod.mk.injEq] at hft
          exact ⟨fd, rfl, hft.1, hft.2⟩
      obtain ⟨fd, hfd, hof, htf⟩ := hfield
      split at hr
      · rename_i i hti'
        cases hx with
        | agg h1 h2 _ =>
          obtain ⟨u, hu, hres⟩ := run_part hE hP (t := fd.type) (by rw [htf]; exact hti') h1 h2 hr
          refine ⟨u, ?_, hres⟩
          rw [← hof] at hu
          simp [Instr.field, run_underlying hd, hfd, asAgg, hu]
      · cases hr
    · cases hr
  · cases hr

theorem index_ok {E σ w} {P : Program} (hE : EnvOK E) (hP : E.P = P) {t : TypeId} {x i r : V} {xv iv : Value} (hx : Reps σ w [x] [xv]) (hi : Reps σ w [i] [iv])
    (hr : indexD E t x i = some r) : ∃ u, (Instr.index t xv iv).run P w = .ok u w ∧ Reps σ w [r] [u] := by
  unfold indexD at hr
  split at hr
  · rename_i k n
    cases hi with
    | lit hl _ =>
      split at hr
      · rename_i len e sz by' z0 cs hti
        obtain ⟨inf, d, hin, hd, q1, q2, q3, q4⟩ := tiOf_some (hE.ti _ _ hti)
        rw [hP] at hd
        have hds := tyOf_array q1
        subst hds
        split at hr
        · rename_i ei hei
          obtain ⟨infe, de, hie, hde, e1, e2, e3, e4⟩ := tiOf_some (hE.ti _ _ hei)
          rw [hP] at hie
          split at hr
          · rename_i hc
            cases hx with
            | agg h1 h2 _ =>
              obtain ⟨u, hu, hres⟩ := run_part hE hP hei h1 h2 hr
              refine ⟨u, ?_, hres⟩
              rw [e2] at hu
              simp [Instr.index, asIntOf, run_underlying hd, hc.1, hc.2, sizeOf, typeInfo, hie, hu]
          · cases hr
        · cases hr
      · rename_i sz by' z0 s hti
        split at hr
        · rename_i hst
          have hd : P.underlying t = some .string := by rw [← hP]; exact hE.isStr t hst
          split at hr
          · rename_i h0
            cases hg : s[n.toNat]? with
            | none => simp [hg] at hr
            | some b =>
              simp only [hg, Option.map_some, Option.some.injEq] at hr
              subst hr
              cases hx with
              | lit _ _ =>
                refine ⟨.int .u8 b.toNat, ?_, .lit ?_ .nil⟩
                · simp [Instr.index, asIntOf, run_underlying hd, h0, hg]
                · have := b.toNat_lt
                  simp [leaf, Lit.wf, IntKind.min, IntKind.max, IntKind.signed, IntKind.bits]
                  omega
          · cases hr
        · cases hr
      · cases hr
  · cases hr

end Go.Proofs.Ytcjccaonfgcakaa.Le
