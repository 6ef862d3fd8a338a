/-
  An evaluator for the model's code over pure values: operations, regions, code and calls are sound.
-/
import Derived.Test.YtpikcdlhgiooaaaGreatL2
import Derived.Orders
import Derived.LoopN
import Derived.Scope
namespace Go.Proofs.YtpikcdlhgiooaaaGreat.Le
set_option linter.unusedVariables false
open Go.RowKit (Below)

/-- What a call that the evaluator answers comes to. -/
def CallOK (P : Program) (E : Env) (B : Nat) (w0 : Start) (call : CallF) : Prop :=
  ∀ (f : FuncId) (args : List V) (H : Heap) (x : V) (H' : Heap) (σ : Sg) (w : World) (vs : List Value), call f args H = some (x, H') → Inv B w0 σ H w → GlobOK E σ w → Reps σ w args vs →
    (∃ fn, P.funcs[f]? = some fn ∧ fn.body.isNone = false ∧ (fn.name == "runtime.NumGoroutine") = false) ∧
    Calls P f vs.toArray w fun e w' => ∃ u σ', e = .returned u ∧ Inv B w0 σ' H' w' ∧ Ext σ w σ' w' ∧ Reps σ' w' [x] [u]

section
variable {P : Program} {o : Oper} {a : Act} {w : World} {next : Act → World → Prop} {Q : Exit → Act → World → Prop}

theorem wp_value {s : Sem Value} {u : Value} {w' : World} (he : execOp a.eval o = (do let x ← s; pure (Next.value x))) (hr : s.run P w = .ok u w') (hn : next (a.put o.dst u) w') : o.wp P a w next Q := by
  unfold Oper.wp
  rw [he]
  simp only [Sem.run_bind, hr, Result.andThen_ok, Sem.run_pure]
  exact hn

theorem wp_unit {s : Sem Unit} {w' : World} (he : execOp a.eval o = (do s; pure Next.skip)) (hr : s.run P w = .ok () w') (hn : next (a.put o.dst undef) w') : o.wp P a w next Q := by
  unfold Oper.wp
  rw [he]
  simp only [Sem.run_bind, hr, Result.andThen_ok, Sem.run_pure]
  exact hn
end

theorem parts_ev {E : Env} {σ w s} {a : Act} (hg : GlobOK E σ w) (h : Reps σ w s a.tmps.toList) (parts : List (Nat × Operand)) :
    Parts σ w (parts.map fun (i, x) => (i, ev E s x)) (parts.map fun (i, x) => (i, a.eval x)) := by
  induction parts with
  | nil => exact .nil
  | cons p ps ih => exact .cons (ev_reps hg h p.2) ih

theorem optRep_ev {E : Env} {σ w s} {a : Act} (hg : GlobOK E σ w) (h : Reps σ w s a.tmps.toList) (x : Option Operand) : OptRep σ w (x.map (ev E s)) (x.map a.eval) := by
  cases x with
  | none => exact .none
  | some x => exact .some (ev_reps hg h x)

theorem frzT_reps {B w0 σ H w} (h : Inv B w0 σ H w) {x x' : V} {v : Value} (hr : Reps σ w [x] [v]) (hf : frzT H x = some x') (ids : List Nat) (hids : ∀ i ∈ idsT x, i ∈ ids) :
    Reps (σ.freeze H ids) w [x'] [v] := by
  unfold frzT at hf
  split at hf
  · rename_i vs
    cases hr with
    | tup h1 _ =>
      cases hl : frzAll H vs with
      | none => simp [hl] at hf
      | some vs' =>
        simp only [hl, Option.map_some, Option.some.injEq] at hf
        subst hf
        exact .tup (frzAll_reps h h1 hl ids hids) .nil
  · refine frz_reps h hr hf ids (fun i hi => hids i ?_)
    cases x <;> simp_all [idsT]


/-- An operation as the evaluator sees it: when it answers, the operation runs, and leaves what the evaluator says. -/
def Sound (P : Program) (E : Env) (B : Nat) (w0 : Start) (call : CallF) (σ : Sg) (k : Nat) (H : Heap) (w : World) (s : List V) (a : Act) (o : Oper) : Prop :=
  ∀ x H', opD call E k H s o = some (x, H') → ∀ (next : Act → World → Prop) (Q : Exit → Act → World → Prop),
    (∀ u w' σ', Inv B w0 σ' H' w' → Ext σ w σ' w' → Reps σ' w' [x] [u] → next (a.put o.dst u) w') → o.wp P a w next Q

section
variable {E : Env} {B : Nat} {w0 : Start} {σ : Sg} {H : Heap} {w : World} {P : Program} {call : CallF} {s : List V} {a : Act} {o : Oper} {k : Nat}

/-- Operations that read only. -/
theorem sound_read {y : Option V} {m : Sem Value} (hI : Inv B w0 σ H w) (he : execOp a.eval o = (do let x ← m; pure (Next.value x))) (hd : opD call E k H s o = y.map (·, H))
    (h : ∀ x, y = some x → ∃ u, m.run P w = .ok u w ∧ Reps σ w [x] [u]) : Sound P E B w0 call σ k H w s a o := by
  intro x H' ho next Q hn
  rw [hd] at ho
  cases y with
  | none => cases ho
  | some x' =>
    simp only [Option.map_some, Option.some.injEq, Prod.mk.injEq] at ho
    obtain ⟨rfl, rfl⟩ := ho
    obtain ⟨u, hu, hr⟩ := h x' rfl
    exact wp_value he hu (hn _ w σ hI (Ext.refl σ w) hr)

theorem sound_pure {y : V} {u : Value} (hI : Inv B w0 σ H w) (he : execOp a.eval o = pure (Next.value u)) (hd : opD call E k H s o = some (y, H)) (h : Reps σ w [y] [u]) : Sound P E B w0 call σ k H w s a o :=
  sound_read (m := pure u) (y := some y) hI (by rw [he]; rfl) hd (fun x hx => ⟨u, rfl, by cases hx; exact h⟩)

theorem sound_move (hI : Inv B w0 σ H w) (hg : GlobOK E σ w) (hs : Reps σ w s a.tmps.toList) {y : Operand} (hop : o.op = .move y) : Sound P E B w0 call σ k H w s a o :=
  sound_pure hI (u := a.eval y) (y := ev E s y) (by unfold execOp; rw [hop]) (by unfold opD; rw [hop]) (ev_reps hg hs y)

theorem sound_assign (hk0 : freeB H k = true) (hI : Inv B w0 σ H w) (hg : GlobOK E σ w) (hs : Reps σ w s a.tmps.toList) {y : Operand} (hop : o.op = .assign y) : Sound P E B w0 call σ k H w s a o := by
  by_cases hy : y = .const (.slice none 0 0)
  · subst hy
    intro x H' ho next Q hn
    unfold opD at ho
    rw [hop] at ho
    simp only at ho
    split at ho
    · rename_i e sz by' z0 hti
      simp only [Option.some.injEq, Prod.mk.injEq] at ho
      obtain ⟨rfl, rfl⟩ := ho
      obtain ⟨σ', h1, h2, h3⟩ := push_ok (e := e) (esz := (E.size e).getD 0) hI hk0 (grownBy_refl w none) (xs := []) (us := []) .nil (by simp) (by simp) (by simp [flat]) (ownR_nil w B e _) (by simp [Value.ownBlock]) false (by simp)
      unfold Oper.wp execOp
      rw [hop]
      exact hn _ w σ' h1 h2 h3
    · cases ho
  · refine sound_pure hI (u := a.eval y) (y := ev E s y) (by unfold execOp; rw [hop]) ?_ (ev_reps hg hs y)
    unfold opD
    simp_all

theorem sound_pick (hI : Inv B w0 σ H w) (hg : GlobOK E σ w) (hs : Reps σ w s a.tmps.toList) {c y z : Operand} (hop : o.op = .pick c y z) : Sound P E B w0 call σ k H w s a o := by
  intro x H' ho next Q hn
  unfold opD at ho
  rw [hop] at ho
  simp only at ho
  split at ho
  · rename_i t hc
    simp only [Option.some.injEq, Prod.mk.injEq] at ho
    obtain ⟨rfl, rfl⟩ := ho
    have hcv := ev_reps hg hs c
    rw [hc] at hcv
    have hcb : a.eval c = .bool t := by generalize a.eval c = cv at hcv; cases hcv; rfl
    unfold Oper.wp execOp
    rw [hop]
    simp only [hcb, asBool, Sem.run_bind, Sem.run_pure, Result.andThen_ok]
    refine hn _ w σ hI (Ext.refl σ w) ?_
    cases t
    · exact ev_reps hg hs z
    · exact ev_reps hg hs y
  · cases ho

theorem sound_alloc (hE : EnvOK E) (hP : E.P = P) (hk0 : freeB H k = true) (hI : Inv B w0 σ H w) {t : TypeId} (hop : o.op = .alloc t) : Sound P E B w0 call σ k H w s a o := by
  intro x H' ho next Q hn
  unfold opD at ho
  rw [hop] at ho
  simp only at ho
  split at ho
  · rename_i i hti
    split at ho
    · rename_i z hz
      split at ho
      · rename_i hc
        simp only [Option.some.injEq, Prod.mk.injEq] at ho
        obtain ⟨rfl, rfl⟩ := ho
        obtain ⟨inf, zv, hi, hzv, hsz, hbz, hzr⟩ := zok_some hE hP hti hz σ w
        obtain ⟨w', σ', hrun, h1, h2, h3⟩ := newVar_ok (P := P) hI hk0 t hzr hc.2 hc.1
        refine wp_value (s := Instr.alloc t true (.tuple #[])) (u := .pointer (some ⟨w.heap.size, 0, none⟩)) (w' := w') (by unfold execOp; rw [hop]) ?_ (hn _ w' σ' h1 h2 h3)
        simp [Instr.alloc, zeroValue, typeInfo, hi, hzv, hrun]
      · cases ho
    · cases ho
  · cases ho

theorem sound_box (hk0 : freeB H k = true) (hI : Inv B w0 σ H w) (hg : GlobOK E σ w) (hs : Reps σ w s a.tmps.toList) {t : TypeId} {y : Operand} (hop : o.op = .box t y) : Sound P E B w0 call σ k H w s a o := by
  intro x H' ho next Q hn
  unfold opD at ho
  rw [hop] at ho
  simp only at ho
  split at ho
  · rename_i i hti
    split at ho
    · rename_i hc
      simp only [Option.some.injEq, Prod.mk.injEq] at ho
      obtain ⟨rfl, rfl⟩ := ho
      obtain ⟨w', σ', hrun, h1, h2, h3⟩ := newVar_ok (P := P) hI hk0 t (ev_reps hg hs y) hc.2 hc.1
      refine wp_value (s := Instr.box t (a.eval y)) (u := .pointer (some ⟨w.heap.size, 0, none⟩)) (w' := w') (by unfold execOp; rw [hop]) ?_ (hn _ w' σ' h1 h2 h3)
      simp [Instr.box, hrun]
    · cases ho
  · cases ho

theorem sound_build (hE : EnvOK E) (hP : E.P = P) (hI : Inv B w0 σ H w) (hg : GlobOK E σ w) (hs : Reps σ w s a.tmps.toList) {t : TypeId} {parts : Array (Nat × Operand)} (hop : o.op = .build t parts) : Sound P E B w0 call σ k H w s a o :=
  sound_read (m := Instr.build t (parts.map fun (i, x) => (i, a.eval x))) hI (by unfold execOp; rw [hop]) (by unfold opD; rw [hop])
    (fun x hx => build_ok hE hP (by simpa using parts_ev hg hs parts.toList) hx)

theorem sound_buildSlice (hE : EnvOK E) (hP : E.P = P) (hk0 : freeB H k = true) (hI : Inv B w0 σ H w) (hg : GlobOK E σ w) (hs : Reps σ w s a.tmps.toList) {t : TypeId} {n : Nat} {parts : Array (Nat × Operand)} (hop : o.op = .buildSlice t n parts) : Sound P E B w0 call σ k H w s a o := by
  intro x H' ho next Q hn
  unfold opD at ho
  rw [hop] at ho
  simp only at ho
  obtain ⟨vp, hvp⟩ : ∃ vp : Array (Nat × Value), vp = parts.map (fun (i, x) => (i, a.eval x)) := ⟨_, rfl⟩
  obtain ⟨u, w', σ', hu, h1, h2, h3⟩ := buildSlice_ok (P := P) (vparts := vp) hE hP hI hk0 (by rw [hvp]; simpa using parts_ev hg hs parts.toList) ho
  exact wp_value (s := Instr.buildSlice t n vp) (by unfold execOp; rw [hop, hvp]) hu (hn _ w' σ' h1 h2 h3)

theorem sound_load (hE : EnvOK E) (hP : E.P = P) (hI : Inv B w0 σ H w) (hg : GlobOK E σ w) (hs : Reps σ w s a.tmps.toList) {t : TypeId} {y : Operand} (hop : o.op = .load t y) : Sound P E B w0 call σ k H w s a o :=
  sound_read (m := Instr.loadAt t (a.eval y)) hI (by unfold execOp; rw [hop]) (by unfold opD; rw [hop]) (fun x hx => load_ok hE hP hI (ev_reps hg hs y) hx)

theorem sound_store (hE : EnvOK E) (hP : E.P = P) (hI : Inv B w0 σ H w) (hg : GlobOK E σ w) (hs : Reps σ w s a.tmps.toList) {t : TypeId} {y z : Operand} (hop : o.op = .store t y z) : Sound P E B w0 call σ k H w s a o := by
  intro x H' ho next Q hn
  unfold opD at ho
  rw [hop] at ho
  simp only at ho
  cases hb : storeD E H t (ev E s y) (ev E s z) with
  | none => simp [hb] at ho
  | some H2 =>
    simp only [hb, Option.map_some, Option.some.injEq, Prod.mk.injEq] at ho
    obtain ⟨rfl, rfl⟩ := ho
    obtain ⟨w', σ', hu, h1, h2⟩ := store_ok (P := P) hE hP hI (ev_reps hg hs y) (ev_reps hg hs z) hb
    exact wp_unit (s := Instr.storeAt t (a.eval y) (a.eval z)) (by unfold execOp; rw [hop]) hu (hn _ w' σ' h1 h2 (.no .nil))

theorem sound_nilCheck (hI : Inv B w0 σ H w) (hg : GlobOK E σ w) (hs : Reps σ w s a.tmps.toList) {y : Operand} (hop : o.op = .nilCheck y) : Sound P E B w0 call σ k H w s a o := by
  intro x H' ho next Q hn
  unfold opD at ho
  rw [hop] at ho
  simp only at ho
  split at ho
  · rename_i hnil
    simp only [Option.some.injEq, Prod.mk.injEq] at ho
    obtain ⟨rfl, rfl⟩ := ho
    have hv := ev_reps hg hs y
    have hrun : execOp a.eval o = pure (Next.value (a.eval y)) := by
      unfold execOp
      rw [hop]
      simp only
      generalize ev E s y = ey at hv hnil
      generalize a.eval y = vy at hv
      cases hv with
      | mref _ _ _ => cases hnil
      | und _ _ => cases hnil
      | no _ => cases hnil
      | @lit v _ _ hl _ => unfold isNilV at hnil; split at hnil <;> simp_all
      | agg _ _ _ => cases hnil
      | tup _ _ => cases hnil
      | slnil _ => rfl
      | slemp a _ => rfl
      | sltnil _ => rfl
      | sltemp a _ => rfl
      | sl _ _ _ _ _ _ _ _ _ _ _ _ => rfl
      | slt _ _ _ _ _ _ _ _ _ _ => rfl
      | lsl _ _ _ _ _ => cases hnil
      | ptr g _ _ _ h4 _ => subst h4; rfl
      | ept _ _ _ _ _ _ _ _ _ _ _ => rfl
      | fn _ _ _ => rfl
      | ifc _ _ => rfl
    unfold Oper.wp
    rw [hrun]
    exact hn _ w σ hI (Ext.refl σ w) hv
  · cases ho

theorem sound_binOp (hE : EnvOK E) (hP : E.P = P) (hI : Inv B w0 σ H w) (hg : GlobOK E σ w) (hs : Reps σ w s a.tmps.toList) {op : BinOp} {t yt : TypeId} {y z : Operand} (hop : o.op = .binOp op t y z yt) : Sound P E B w0 call σ k H w s a o :=
  sound_read (m := (do eqGuard op t y z (a.eval y) (a.eval z); binOp op t (a.eval y) (a.eval z))) hI (by unfold execOp; rw [hop]) (by unfold opD; rw [hop])
    (fun x hx => by
      obtain ⟨u, hu1, hu2, hr⟩ := bin_ok (P := P) hE hP y z (ev_reps hg hs y) (ev_reps hg hs z) hx
      simp_all)

theorem sound_unOp (hI : Inv B w0 σ H w) (hg : GlobOK E σ w) (hs : Reps σ w s a.tmps.toList) {op : UnOp} {t : TypeId} {y : Operand} (hop : o.op = .unOp op t y) : Sound P E B w0 call σ k H w s a o :=
  sound_read (m := Op.unary op (a.eval y)) hI (by unfold execOp; rw [hop]) (by unfold opD; rw [hop]) (fun x hx => un_ok (ev_reps hg hs y) hx)

theorem sound_convert (hE : EnvOK E) (hP : E.P = P) (hk0 : freeB H k = true) (hI : Inv B w0 σ H w) (hg : GlobOK E σ w) (hs : Reps σ w s a.tmps.toList) {src dst : TypeId} {y : Operand} (hop : o.op = .convert src dst y) : Sound P E B w0 call σ k H w s a o := by
  intro x H' ho next Q hn
  unfold opD at ho
  rw [hop] at ho
  simp only at ho
  split at ho
  · rename_i hb
    simp only [Bool.and_eq_true] at hb
    obtain ⟨u, w', σ', hu, i1, i2, i3⟩ := convS_ok (P := P) hE hP hI hk0 (ev_reps hg hs y) hb.1 hb.2 ho
    exact wp_value (s := convert src dst (a.eval y)) (by unfold execOp; rw [hop]) hu (hn _ w' σ' i1 i2 i3)
  obtain ⟨rfl, u, hu, hr⟩ := conv_ok (P := P) hE hP hI (ev_reps hg hs y) ho
  exact wp_value (s := convert src dst (a.eval y)) (by unfold execOp; rw [hop]) hu (hn _ w σ hI (Ext.refl σ w) hr)

theorem sound_makeSlice (hE : EnvOK E) (hP : E.P = P) (hk0 : freeB H k = true) (hI : Inv B w0 σ H w) (hg : GlobOK E σ w) (hs : Reps σ w s a.tmps.toList) {t : TypeId} {l c : Operand} (hop : o.op = .makeSlice t l c) : Sound P E B w0 call σ k H w s a o := by
  intro x H' ho next Q hn
  unfold opD at ho
  rw [hop] at ho
  simp only at ho
  split at ho
  · rename_i e sz by' z0 kl n kc m hti hl hc
    split at ho
    · rename_i ei hei
      split at ho
      · rename_i z hz
        split at ho
        · rename_i hcond
          obtain ⟨c1, c2, c3, c4, c5, c6, c7⟩ := hcond
          simp only [Option.some.injEq, Prod.mk.injEq] at ho
          obtain ⟨rfl, rfl⟩ := ho
          obtain ⟨inf, d, hi, hd, q1, q2, q3, q4⟩ := tiOf_some (hE.ti _ _ hti)
          have hd' : P.underlying t = some (.slice e) := by rw [hP] at hd; rw [hd, tyOf_slice q1]
          have hlv := ev_reps hg hs l
          have hcv := ev_reps hg hs c
          rw [hl] at hlv
          rw [hc] at hcv
          have e1 : a.eval l = .int kl n := by generalize a.eval l = q at hlv; cases hlv; rfl
          have e2 : a.eval c = .int kc m := by generalize a.eval c = q at hcv; cases hcv; rfl
          obtain ⟨u, w', σ', hu, h1, h2, h3⟩ := make_ok (P := P) (kl := kl) (kc := kc) hE hP hI hk0 hd' hei hz c1 c2 c3 c4 c5 c6 c7 _
          exact wp_value (s := Instr.makeSlice t (a.eval l) (a.eval c)) (by unfold execOp; rw [hop]) (by rw [e1, e2]; exact hu) (hn _ w' σ' h1 h2 h3)
        · cases ho
      · cases ho
    · cases ho
  · cases ho

theorem sound_slice (hE : EnvOK E) (hP : E.P = P) (hI : Inv B w0 σ H w) (hg : GlobOK E σ w) (hs : Reps σ w s a.tmps.toList) {t : TypeId} {y : Operand} {lo hi mx : Option Operand} (hop : o.op = .slice t y lo hi mx) : Sound P E B w0 call σ k H w s a o := by
  intro x H' ho next Q hn
  unfold opD at ho
  rw [hop] at ho
  simp only at ho
  split at ho
  · rename_i n e sz by' z0 hti
    obtain ⟨u, σ', hu, h1, h2, h3⟩ := sliceA_ok (P := P) (lo' := lo.map a.eval) (hi' := hi.map a.eval) (mx' := mx.map a.eval) hE hP hI hti (ev_reps hg hs y) (optRep_ev hg hs lo) (optRep_ev hg hs hi) (optRep_ev hg hs mx) ho
    exact wp_value (s := Instr.sliceAt t (a.eval y) (lo.map a.eval) (hi.map a.eval) (mx.map a.eval)) (by unfold execOp; rw [hop]) hu (hn _ w σ' h1 h2 h3)
  obtain ⟨u, σ', hu, h1, h2, h3⟩ := slice_ok (P := P) hE hP hI (ev_reps hg hs y) (optRep_ev hg hs lo) (optRep_ev hg hs hi) (optRep_ev hg hs mx) ho
  exact wp_value (s := Instr.sliceAt t (a.eval y) (lo.map a.eval) (hi.map a.eval) (mx.map a.eval)) (by unfold execOp; rw [hop]) hu (hn _ w σ' h1 h2 h3)

theorem sound_arr (hE : EnvOK E) (hP : E.P = P) (hI : Inv B w0 σ H w) (hg : GlobOK E σ w) (hs : Reps σ w s a.tmps.toList) {t : TypeId} {y : Operand} (hop : o.op = .sliceToArrayPointer t y) : Sound P E B w0 call σ k H w s a o :=
  sound_read (m := Instr.arrayAt t (a.eval y)) hI (by unfold execOp; rw [hop]) (by unfold opD; rw [hop]) (fun x hx => arrA_ok hE hP (ev_reps hg hs y) hx)

theorem sound_fieldAddr (hE : EnvOK E) (hP : E.P = P) (hI : Inv B w0 σ H w) (hg : GlobOK E σ w) (hs : Reps σ w s a.tmps.toList) {t : TypeId} {y : Operand} {f : Nat} (hop : o.op = .fieldAddr t y f) : Sound P E B w0 call σ k H w s a o :=
  sound_read (m := Instr.fieldAt t (a.eval y) f) hI (by unfold execOp; rw [hop]) (by unfold opD; rw [hop]) (fun x hx => fieldAddr_ok hE hP (ev_reps hg hs y) hx)

theorem sound_field (hE : EnvOK E) (hP : E.P = P) (hI : Inv B w0 σ H w) (hg : GlobOK E σ w) (hs : Reps σ w s a.tmps.toList) {t : TypeId} {y : Operand} {f : Nat} (hop : o.op = .field t y f) : Sound P E B w0 call σ k H w s a o :=
  sound_read (m := Instr.field t (a.eval y) f) hI (by unfold execOp; rw [hop]) (by unfold opD; rw [hop]) (fun x hx => field_ok hE hP (ev_reps hg hs y) hx)

theorem sound_indexAddr (hE : EnvOK E) (hP : E.P = P) (hI : Inv B w0 σ H w) (hg : GlobOK E σ w) (hs : Reps σ w s a.tmps.toList) {t : TypeId} {y i : Operand} (hop : o.op = .indexAddr t y i) : Sound P E B w0 call σ k H w s a o :=
  sound_read (m := Instr.indexAt t (a.eval y) (a.eval i)) hI (by unfold execOp; rw [hop]) (by unfold opD; rw [hop]) (fun x hx => indexAddr_ok hE hP hI (ev_reps hg hs y) (ev_reps hg hs i) hx)

theorem sound_index (hE : EnvOK E) (hP : E.P = P) (hI : Inv B w0 σ H w) (hg : GlobOK E σ w) (hs : Reps σ w s a.tmps.toList) {t : TypeId} {y i : Operand} (hop : o.op = .index t y i) : Sound P E B w0 call σ k H w s a o :=
  sound_read (m := Instr.index t (a.eval y) (a.eval i)) hI (by unfold execOp; rw [hop]) (by unfold opD; rw [hop]) (fun x hx => index_ok hE hP (ev_reps hg hs y) (ev_reps hg hs i) hx)

theorem lookV_find {σ : Sg} {w : World} {kd : IntKind} {n : Int} : ∀ (l : List MapEntry) (kvs : List V) (i : Nat), Reps σ w kvs (l.flatMap fun e => [e.key, e.val]) →
    (lookV kd n kvs = some none → Instr.findNow (.int kd) (.int kd n) l i = some none) ∧ (∀ v, lookV kd n kvs = some (some v) → ∃ j u, Instr.findNow (.int kd) (.int kd n) l i = some (some (j, u)) ∧ Reps σ w [v] [u])
  | [], kvs, i, h => by
    cases h
    exact ⟨fun _ => rfl, fun v hv => by cases hv⟩
  | e :: l, kvs, i, h => by
    have h' : Reps σ w kvs (e.key :: e.val :: l.flatMap fun e => [e.key, e.val]) := h
    cases kvs with
    | nil => cases h'
    | cons x kvs =>
      obtain ⟨h1, h2⟩ := Reps.cons_iff.1 h'
      cases kvs with
      | nil => cases h2
      | cons y kvs =>
        obtain ⟨h3, h4⟩ := Reps.cons_iff.1 h2
        have ih := lookV_find (kd := kd) (n := n) l kvs (i + 1) h4
        generalize hk : e.key = key at h1
        have no : (∀ k a, x ≠ .lit (.int k a)) → lookV kd n (x :: y :: kvs) = none := fun hx => by
          unfold lookV
          simp_all
        by_cases hx : ∃ k a, x = .lit (.int k a)
        · obtain ⟨k, a, rfl⟩ := hx
          cases h1 with
          | lit _ _ =>
            unfold lookV
            by_cases hkd : k = kd
            · subst hkd
              simp only [if_true]
              unfold Instr.findNow
              rw [hk]
              simp only [Instr.sameNow, if_true]
              grind
            simp_all
        simp_all

theorem lookup_core (hE : EnvOK E) (hP : E.P = P) {t : TypeId} {ok : Bool} {kvs0 : List V} {us : List Value} {g : Nat} {es : Array MapEntry} {c : Nat} {x r : V} {xv : Value} (h0 : Reps σ w kvs0 us) (hg : w.heap[g]? = some (.map es c)) (hus : us = es.toList.flatMap (fun e => [e.key, e.val])) (hx : Reps σ w [x] [xv]) (h : lookD E t ok (.mpl kvs0) x = some r) :
    ∃ v, (Instr.lookup t (.map (some g)) xv ok).run P w = .ok v w ∧ Reps σ w [r] [v] := by
  unfold lookD at h
  split at h
  · rename_i k e sz by' z0 kvs kd n hti hmm
    cases hmm
    obtain ⟨inf, d, hi, hd, q1, q2, q3, q4⟩ := tiOf_some (hE.ti _ _ hti)
    have hd' : P.underlying t = some (.map k e) := by
      rw [hP] at hd
      rw [hd]
      cases d <;> simp [tyOf] at q1
      exact congrArg some (by rw [q1.1, q1.2])
    split at h
    · rename_i hkd
      have hk : P.underlying k = some (.int kd) := by rw [← hP]; exact hE.kind _ _ hkd
      subst hus
      cases hx with
      | lit _ _ =>
        obtain ⟨f1, f2⟩ := lookV_find (kd := kd) (n := n) es.toList kvs0 0 h0
        have hck : (Instr.checkKey es.isEmpty 10000 k (.int kd n)).run P w = .ok () w := MapKept.run_checkKey (k := .int kd n) hk (by simp [MapKept.IsKey]) es.isEmpty 9999
        have hfk : ∀ q, Instr.findNow (.int kd) (.int kd n) es.toList 0 = some q → (Instr.findKey k (.int kd n) es.toList).run P w = .ok q w := fun q hq => by simp [Instr.findKey, run_underlying hk, hq]
        split at h
        · rename_i v hv
          obtain ⟨j, u, h1, h2⟩ := f2 v hv
          simp only [Option.some.injEq] at h
          subst h
          refine ⟨if ok then .tuple #[u, .bool true] else u, by simp [Instr.lookup, run_underlying hd', MapKept.run_getObj_map hg, hck, hfk _ h1, Result.andThen], ?_⟩
          cases ok with
          | true => exact .tup (Reps.cons_iff.2 ⟨h2, .lit rfl .nil⟩) .nil
          | false => exact h2
        · rename_i hv
          have h1 := f1 hv
          split at h
          · rename_i ei hei
            obtain ⟨infe, de, hie, hde, e1, e2, e3, e4⟩ := tiOf_some (hE.ti _ _ hei)
            cases hz : ei.zero with
            | none => simp [hz] at h
            | some z =>
              simp only [hz, Option.map_some, Option.some.injEq] at h
              subst h
              rw [hz] at e4
              cases hzz : infe.zero with
              | none => simp [hzz] at e4
              | some zv =>
                simp only [hzz, Option.map_some, Option.some.injEq] at e4
                have hzr : (zeroValue e).run P w = .ok zv w := by rw [hP] at hie; simp [zeroValue, typeInfo, hie, hzz]
                have h2 := ofConst_reps σ w zv
                rw [← e4] at h2
                refine ⟨if ok then .tuple #[zv, .bool false] else zv, by simp [Instr.lookup, run_underlying hd', MapKept.run_getObj_map hg, hck, hfk _ h1, hzr, Result.andThen], ?_⟩
                cases ok with
                | true => exact .tup (Reps.cons_iff.2 ⟨h2, .lit rfl .nil⟩) .nil
                | false => exact h2
          · cases h
        · cases h
    · cases h
  · cases h

theorem lookup_ok (hE : EnvOK E) (hP : E.P = P) (hI : Inv B w0 σ H w) {t : TypeId} {ok : Bool} {m x r : V} {mv xv : Value} (hm : Reps σ w [m] [mv]) (hx : Reps σ w [x] [xv]) (h : lookH E H t ok m x = some r) :
    ∃ v, (Instr.lookup t mv xv ok).run P w = .ok v w ∧ Reps σ w [r] [v] := by
  unfold lookH at h
  split at h
  · split at h
    · rename_i b hb
      split at h
      · rename_i hmb
        obtain ⟨g, es, c, rfl, g1, g2, g3, g4⟩ := map_met hE hP hI hm hb hmb
        exact lookup_core hE hP g3 g2 rfl hx h
      · cases h
    · cases h
  · cases m with
    | mpl kvs => cases hm
    | _ => unfold lookD at h; split at h <;> simp_all

theorem sound_makeMap (hE : EnvOK E) (hP : E.P = P) (hk0 : freeB H k = true) (hI : Inv B w0 σ H w) (hg : GlobOK E σ w) (hs : Reps σ w s a.tmps.toList) {t : TypeId} {r : Option Operand} (hop : o.op = .makeMap t r) : Sound P E B w0 call σ k H w s a o := by
  intro x H' ho next Q hn
  unfold opD at ho
  rw [hop] at ho
  obtain ⟨h0, σ', h1, h2, h3⟩ := makeMap_ok (P := P) hI hk0 t
  cases r with
  | none =>
    simp only at ho
    split at ho
    · simp only [Option.some.injEq, Prod.mk.injEq] at ho
      obtain ⟨rfl, rfl⟩ := ho
      exact wp_value (s := Instr.makeMap t none) (by unfold execOp; rw [hop]; rfl) (by simp [Instr.makeMap, h0]) (hn _ _ σ' h1 h2 h3)
    · cases ho
  | some r =>
    simp only at ho
    split at ho
    · rename_i k0 e sz by' z0 kd n hti hev
      simp only [Option.some.injEq, Prod.mk.injEq] at ho
      obtain ⟨rfl, rfl⟩ := ho
      have hd := mapType_ok hE hP hti
      have hr := ev_reps hg hs r
      rw [hev] at hr
      have hr := hr.lit_eq
      exact wp_value (s := Instr.makeMap t (some (a.eval r))) (by unfold execOp; rw [hop]; rfl) (by simp only [Instr.makeMap, hr]; simp [run_underlying hd, asInt, asIntOf, h0]) (hn _ _ σ' h1 h2 h3)
    · cases ho

theorem sound_mapUp (hE : EnvOK E) (hP : E.P = P) (hI : Inv B w0 σ H w) (hg : GlobOK E σ w) (hs : Reps σ w s a.tmps.toList) {t : TypeId} {m y v : Operand} (hop : o.op = .mapUpdate t m y v ∨ o.op = .insert t m y v) : Sound P E B w0 call σ k H w s a o := by
  intro x H' ho next Q hn
  have ho' : (mapUpD E H t (ev E s m) (ev E s y) (ev E s v)).map (vundef, ·) = some (x, H') := by
    unfold opD at ho
    rcases hop with hop | hop <;> (rw [hop] at ho; exact ho)
  cases hu : mapUpD E H t (ev E s m) (ev E s y) (ev E s v) with
  | none => simp [hu] at ho'
  | some H1 =>
    simp only [hu, Option.map_some, Option.some.injEq, Prod.mk.injEq] at ho'
    obtain ⟨rfl, rfl⟩ := ho'
    obtain ⟨w', σ', h1, h2, h3⟩ := mapUp_ok (P := P) hE hP hI (ev_reps hg hs m) (ev_reps hg hs y) (ev_reps hg hs v) hu
    refine wp_unit (s := Instr.mapUpdate t (a.eval m) (a.eval y) (a.eval v)) ?_ h1 (hn _ _ σ' h2 h3 (.no .nil))
    unfold execOp
    rcases hop with hop | hop <;> rw [hop]

theorem sound_lookup (hE : EnvOK E) (hP : E.P = P) (hI : Inv B w0 σ H w) (hg : GlobOK E σ w) (hs : Reps σ w s a.tmps.toList) {t : TypeId} {y i : Operand} {ok : Bool} (hop : o.op = .lookup t y i ok) : Sound P E B w0 call σ k H w s a o :=
  sound_read (m := Instr.lookup t (a.eval y) (a.eval i) ok) hI (by unfold execOp; rw [hop]) (by unfold opD; rw [hop]) (fun x hx => lookup_ok hE hP hI (ev_reps hg hs y) (ev_reps hg hs i) hx)

theorem sound_extract (hI : Inv B w0 σ H w) (hg : GlobOK E σ w) (hs : Reps σ w s a.tmps.toList) {y : Operand} {i : Nat} (hop : o.op = .extract y i) : Sound P E B w0 call σ k H w s a o := by
  intro x H' ho next Q hn
  unfold opD at ho
  rw [hop] at ho
  simp only at ho
  split at ho
  · rename_i vs hy
    cases hb : vs[i]? with
    | none => simp [hb] at ho
    | some r =>
      simp only [hb, Option.map_some, Option.some.injEq, Prod.mk.injEq] at ho
      obtain ⟨rfl, rfl⟩ := ho
      have hv := ev_reps hg hs y
      rw [hy] at hv
      have : ∃ ws, a.eval y = .tuple ws.toArray ∧ Reps σ w vs ws := by
        generalize a.eval y = q at hv
        cases hv with
        | tup h1 _ => exact ⟨_, rfl, h1⟩
      obtain ⟨ws, e1, e2⟩ := this
      obtain ⟨u, hu, hr⟩ := e2.get hb
      exact wp_value (s := Instr.extract (a.eval y) i) (by unfold execOp; rw [hop]) (by rw [e1]; simp [Instr.extract, hu]) (hn _ w σ hI (Ext.refl σ w) hr)
  · cases ho

theorem sound_makeFunc (hI : Inv B w0 σ H w) (hg : GlobOK E σ w) (hs : Reps σ w s a.tmps.toList) {f : FuncId} {first caps : Array Operand} (hop : o.op = .makeFunc (.func f) first caps) : Sound P E B w0 call σ k H w s a o :=
  sound_read (m := Instr.makeFunc (.func f) (first.map a.eval) (caps.map a.eval)) (y := some (.fn f (evs E s first) (evs E s caps))) hI (by unfold execOp; rw [hop]) (by unfold opD; rw [hop]; rfl)
    (fun x hx => by
      cases hx
      refine ⟨.func (.func f) (first.map a.eval) (caps.map a.eval), rfl, ?_⟩
      have h1 : (first.toList.map a.eval).toArray = first.map a.eval := by rw [← Array.toList_map]
      have h2 : (caps.toList.map a.eval).toArray = caps.map a.eval := by rw [← Array.toList_map]
      rw [← h1, ← h2]
      exact Reps.fn (f := f) (evs_reps (a := a) hg hs first.toList) (evs_reps (a := a) hg hs caps.toList) (xs := []) (vs := []) .nil)

theorem run_callFunc {P : Program} {f : FuncId} {fn : Func} (h : P.funcs[f]? = some fn) (hn : (fn.name == "runtime.NumGoroutine") = false) (hb : fn.body.isNone = false) (args : Array Value) (w : World) :
    (callFunc f args).run P w = .ok (.enter f args) w := by
  unfold callFunc
  rw [Sem.run_bind]
  have hp : (Go.program).run P w = .ok P w := rfl
  rw [hp]
  simp only [Result.andThen_ok, h, hn, hb, Bool.false_eq_true, if_false]
  rfl

/-- A call of a function value. -/
theorem sound_callValue (hcall : CallOK P E B w0 call) (hI : Inv B w0 σ H w) (hg : GlobOK E σ w) (hs : Reps σ w s a.tmps.toList) {c : Call} {f : Operand} (hop : o.op = .call c) (hc : c.callee = .value f) : Sound P E B w0 call σ k H w s a o := by
  intro x H' ho next Q hn
  unfold opD at ho
  rw [hop] at ho
  simp only [hc] at ho
  split at ho
  · rename_i g first caps hf
    have hv := ev_reps hg hs f
    rw [hf] at hv
    have : ∃ us ws, a.eval f = .func (.func g) us.toArray ws.toArray ∧ Reps σ w first us ∧ Reps σ w caps ws := by
      generalize a.eval f = q at hv
      cases hv with
      | fn h1 h2 _ => grind
    obtain ⟨us, ws, e1, r1, r2⟩ := this
    have r3 := evs_reps (a := a) hg hs c.args.toList
    obtain ⟨⟨fn, hfn, hbody, hname⟩, hcalls⟩ := hcall g _ H x H' σ w _ ho hI hg ((r1.append r3).append r2)
    have hrun : (execOp a.eval o).run P w = .ok (.enter g (us ++ c.args.toList.map a.eval ++ ws).toArray) w := by
      have hca : us.toArray ++ c.args.map a.eval ++ ws.toArray = (us ++ c.args.toList.map a.eval ++ ws).toArray := by
        rw [← Array.toList_map]; simp
      have he : execOp a.eval o = callFunc g (us.toArray ++ c.args.map a.eval ++ ws.toArray) := by
        unfold execOp
        rw [hop]
        simp [resolve, hc, e1, Deferred.ofValue, invoke]
      rw [he, hca]
      exact run_callFunc hfn hname hbody _ w
    unfold Oper.wp
    rw [hrun, Oper.upon_enter]
    refine hcalls.mono ?_
    grind
  · cases ho

theorem lenOf_max (h : Inv B w0 σ H w) {x : V} {v : Value} {n : Nat} (hr : Reps σ w [x] [v]) (hl : lenOf H x = some n) : n ≤ maxLen := by
  unfold lenOf at hl
  split at hl
  · simp only [Option.some.injEq] at hl
    subst hl
    cases hr with
    | slnil _ => exact Nat.zero_le _
    | slemp a _ => exact Nat.zero_le _
    | sl b o c e k0 k1 k2 k3 k4 k5 k6 k7 => grind
  · simp only [Option.some.injEq] at hl
    subst hl
    cases hr with
    | sltnil _ => exact Nat.zero_le _
    | sltemp a _ => exact Nat.zero_le _
    | slt b o e k0 k1 k2 k3 k4 k5 k6 => exact k4
  · rename_i id off len tot
    split at hl
    · rename_i b hb
      simp only [Option.some.injEq] at hl
      subst hl
      obtain ⟨L, us, m, hxl, hol, hs, hview⟩ := lsl_view h hr hb
      grind
    · cases hl
  · rename_i s
    simp only [Option.some.injEq] at hl
    subst hl
    cases hr with
    | lit hlf _ => simpa [leaf] using hlf
  · cases hl

theorem sound_mm (isMax : Bool) {b : Builtin} (hI : Inv B w0 σ H w) {c : Call} (hop : o.op = .call c) (hc : c.callee = .builtin b) {xs : List V} {vs : List Value} (hr : Reps σ w xs vs) (hargs : c.args.map a.eval = vs.toArray)
    (hb : b = if isMax then .max else .min) {x : V} {H' : Heap} (hm : (minmax isMax xs).map (·, H) = some (x, H')) {next : Act → World → Prop} {Q : Exit → Act → World → Prop}
    (hn : ∀ u w' σ', Inv B w0 σ' H' w' → Ext σ w σ' w' → Reps σ' w' [x] [u] → next (a.put o.dst u) w') : o.wp P a w next Q := by
  cases hm' : minmax isMax xs with
  | none => simp [hm'] at hm
  | some y =>
    simp only [hm', Option.map_some, Option.some.injEq, Prod.mk.injEq] at hm
    obtain ⟨rfl, rfl⟩ := hm
    unfold minmax at hm'
    split at hm'
    · rename_i k n rest
      obtain ⟨v, vs', rfl, h1, h2⟩ := hr.cons_left
      have hlf : leaf (.int k n) = true ∧ v = .int k n := by cases h1 with | lit l _ => exact ⟨l, rfl⟩
      obtain ⟨hlf, rfl⟩ := hlf
      obtain ⟨u, hu, hru⟩ := mm_ok (P := P) isMax h2 hlf hm'
      cases isMax
      · simp only [Bool.false_eq_true, if_false] at hb hu
        subst hb
        exact wp_value (s := Builtin.min_ c.argTypes o.type (Value.int k n :: vs').toArray) (by unfold execOp; rw [hop]; simp only [resolve, hc, hargs]; rfl) (by simpa [Builtin.min_] using hu) (hn _ w σ hI (Ext.refl σ w) hru)
      · simp only [if_true] at hb hu
        subst hb
        exact wp_value (s := Builtin.max_ c.argTypes o.type (Value.int k n :: vs').toArray) (by unfold execOp; rw [hop]; simp only [resolve, hc, hargs]; rfl) (by simpa [Builtin.max_] using hu) (hn _ w σ hI (Ext.refl σ w) hru)
    · cases hm'

theorem sound_callBuiltin (hE : EnvOK E) (hP : E.P = P) (hk0 : freeB H k = true) (hI : Inv B w0 σ H w) (hg : GlobOK E σ w) (hs : Reps σ w s a.tmps.toList) {c : Call} {b : Builtin} (hop : o.op = .call c) (hc : c.callee = .builtin b) : Sound P E B w0 call σ k H w s a o := by
  intro x H' ho next Q hn
  unfold opD at ho
  rw [hop] at ho
  simp only [hc] at ho
  have hr := evs_reps (a := a) hg hs c.args.toList
  have hargs : c.args.map a.eval = (c.args.toList.map a.eval).toArray := by rw [← Array.toList_map]
  unfold evs at ho
  generalize c.args.toList.map (ev E s) = xs at ho hr
  generalize hvs : c.args.toList.map a.eval = vs at hr hargs
  generalize htys : c.argTypes.toList = tys at ho
  have htys' : c.argTypes = tys.toArray := by rw [← htys]
  unfold builtinD at ho
  split at ho
  · rename_i x0 t
    obtain ⟨v, vs', rfl, h1, h2⟩ := hr.cons_left
    cases h2.nil_left
    split at ho
    · rename_i hfit
      cases hl : lenOf H x0 with
      | none => simp [hl] at ho
      | some n =>
        simp only [hl] at ho
        cases ho
        have hlen : (Builtin.len_ #[t] o.type #[v]).run P w = .ok (.int .i64 n) w := by
          unfold lenFits at hfit
          split at hfit
          · rename_i st
            have := hE.isStr _ hfit
            rw [hP] at this
            exact len_ok hI h1 hl this (.inr rfl) ⟨fun ⟨e, he⟩ => (by cases he), fun hh => absurd rfl (hh st)⟩
          · rename_i hne
            split at hfit
            · rename_i e sz by' z0 hti
              obtain ⟨inf, d, hi, hd, q1, q2, q3, q4⟩ := tiOf_some (hE.ti _ _ hti)
              rw [hP] at hd
              exact len_ok hI h1 hl hd (.inl ⟨e, tyOf_slice q1⟩) ⟨fun _ => hne, fun _ => ⟨e, tyOf_slice q1⟩⟩
            · cases hfit
        have hbd := hlen
        have hlf : leaf (.int .i64 (n : Int)) = true := by
          have := lenOf_max hI h1 hl
          have : (Lit.int .i64 (n : Int)).wf = true := by
            simp [Lit.wf, IntKind.min, IntKind.max, IntKind.signed, IntKind.bits, maxLen] at this ⊢
            omega
          simpa [leaf] using this
        exact wp_value (s := Builtin.len_ #[t] o.type #[v]) (by unfold execOp; rw [hop]; simp only [resolve, hc, hargs, htys']; rfl) hlen (hn _ w σ hI (Ext.refl σ w) (.lit hlf .nil))
    · cases ho
  · rename_i s0 x0 t u
    obtain ⟨v, vs', rfl, h1, h2⟩ := hr.cons_left
    obtain ⟨v2, vs2, rfl, h3, h4⟩ := h2.cons_left
    cases h4.nil_left
    obtain ⟨u', w', σ', hu, i1, i2, i3⟩ := append_ok (P := P) hE hP hI hk0 o.type h1 h3 ho
    exact wp_value (s := Builtin.append_ #[t, u] o.type #[v, v2]) (by unfold execOp; rw [hop]; simp only [resolve, hc, hargs, htys']; rfl) hu (hn _ w' σ' i1 i2 i3)
  · rename_i d0 x0 t u
    obtain ⟨v, vs', rfl, h1, h2⟩ := hr.cons_left
    obtain ⟨v2, vs2, rfl, h3, h4⟩ := h2.cons_left
    cases h4.nil_left
    obtain ⟨u', w', σ', hu, i1, i2, i3⟩ := copy_ok (P := P) hE hP hI o.type h1 h3 ho
    exact wp_value (s := Builtin.copy_ #[t, u] o.type #[v, v2]) (by unfold execOp; rw [hop]; simp only [resolve, hc, hargs, htys']; rfl) hu (hn _ w' σ' i1 i2 i3)
  · rename_i m0 x0 t u
    obtain ⟨v, vs', rfl, h1, h2⟩ := hr.cons_left
    obtain ⟨v2, vs2, rfl, h3, h4⟩ := h2.cons_left
    cases h4.nil_left
    cases hd : mapW E H t m0 x0 delV with
    | none => simp [hd] at ho
    | some H1 =>
      simp only [hd, Option.map_some, Option.some.injEq, Prod.mk.injEq] at ho
      obtain ⟨rfl, rfl⟩ := ho
      obtain ⟨w', g1, g2, g3⟩ := mapDel_ok (P := P) hE hP hI (u := u) (ty := o.type) h1 h3 hd
      exact wp_value (s := Builtin.delete_ #[t, u] o.type #[v, v2]) (by unfold execOp; rw [hop]; simp only [resolve, hc, hargs, htys']; rfl) g1 (hn _ w' σ g2 g3 (.tup .nil .nil))
  · rename_i x0 t
    obtain ⟨v, vs', rfl, h1, h2⟩ := hr.cons_left
    cases h2.nil_left
    cases hd : clearD E H t x0 with
    | none => simp [hd] at ho
    | some H1 =>
      simp only [hd, Option.map_some, Option.some.injEq, Prod.mk.injEq] at ho
      obtain ⟨rfl, rfl⟩ := ho
      obtain ⟨w', σ', g1, g2, g3⟩ := clear_ok (P := P) hE hP hI o.type h1 hd
      exact wp_value (s := Builtin.clear_ #[t] o.type #[v]) (by unfold execOp; rw [hop]; simp only [resolve, hc, hargs, htys']; rfl) g1 (hn _ w' σ' g2 g3 (.tup .nil .nil))
  · rename_i tys0
    exact sound_mm false hI hop hc hr hargs rfl (by simpa using ho) hn
  · exact sound_mm true hI hop hc hr hargs rfl (by simpa using ho) hn
  · cases ho

end

theorem op_sound {E B w0 σ H w} {P : Program} (hE : EnvOK E) (hP : E.P = P) {call : CallF} (hcall : CallOK P E B w0 call) (hI : Inv B w0 σ H w) (hg : GlobOK E σ w) {k : Nat} (hk0 : freeB H k = true) {s : List V} {a : Act} (hs : Reps σ w s a.tmps.toList)
    (o : Oper) : Sound P E B w0 call σ k H w s a o := by
  cases hop : o.op with
  | move y => exact sound_move hI hg hs hop
  | assign y => exact sound_assign hk0 hI hg hs hop
  | pick c y z => exact sound_pick hI hg hs hop
  | alloc t => exact sound_alloc hE hP hk0 hI hop
  | box t y => exact sound_box hk0 hI hg hs hop
  | build t parts => exact sound_build hE hP hI hg hs hop
  | buildSlice t n parts => exact sound_buildSlice hE hP hk0 hI hg hs hop
  | load t y => exact sound_load hE hP hI hg hs hop
  | store t y z => exact sound_store hE hP hI hg hs hop
  | nilCheck y => exact sound_nilCheck hI hg hs hop
  | binOp op t y z yt => exact sound_binOp hE hP hI hg hs hop
  | unOp op t y => exact sound_unOp hI hg hs hop
  | convert src dst y => exact sound_convert hE hP hk0 hI hg hs hop
  | makeSlice t l c => exact sound_makeSlice hE hP hk0 hI hg hs hop
  | slice t y lo hi mx => exact sound_slice hE hP hI hg hs hop
  | sliceToArrayPointer t y => exact sound_arr hE hP hI hg hs hop
  | fieldAddr t y f => exact sound_fieldAddr hE hP hI hg hs hop
  | field t y f => exact sound_field hE hP hI hg hs hop
  | indexAddr t y i => exact sound_indexAddr hE hP hI hg hs hop
  | index t y i => exact sound_index hE hP hI hg hs hop
  | extract y i => exact sound_extract hI hg hs hop
  | lookup t y i ok => exact sound_lookup hE hP hI hg hs hop
  | makeMap t r => exact sound_makeMap hE hP hk0 hI hg hs hop
  | mapUpdate t m y v => exact sound_mapUp hE hP hI hg hs (.inl hop)
  | insert t m y v => exact sound_mapUp hE hP hI hg hs (.inr hop)
  | makeFunc fn first caps =>
    cases fn with
    | func f => exact sound_makeFunc hI hg hs hop
    | _ => intro x H' ho; unfold opD at ho; rw [hop] at ho; cases ho
  | call c =>
    cases hc : c.callee with
    | value f => exact sound_callValue hcall hI hg hs hop hc
    | builtin b => exact sound_callBuiltin hE hP hk0 hI hg hs hop hc
    | _ => intro x H' ho; unfold opD at ho; rw [hop] at ho; simp only [hc] at ho; cases ho
  | _ => intro x H' ho; unfold opD at ho; rw [hop] at ho; cases ho

end Go.Proofs.YtpikcdlhgiooaaaGreat.Le

/-
  An evaluator for the model's code over pure values: the operations of a region in their own order.
-/
namespace Go.Proofs.YtpikcdlhgiooaaaGreat.Le
set_option linter.unusedVariables false
open Go.RowKit (Below)

/-- How the evaluator's state stands to the model's. -/
structure Rel (E : Env) (B : Nat) (w0 : Start) (σ : Sg) (st : St) (a : Act) (w : World) : Prop where
  inv : Inv B w0 σ st.H w
  glob : GlobOK E σ w
  slots : Reps σ w st.s a.tmps.toList
  calm : a.defers = []

theorem put_slots {σ w s x u} {a : Act} (h : Reps σ w s a.tmps.toList) (hx : Reps σ w [x] [u]) (d : Option Tmp) : Reps σ w (setSlot s d x) (a.put d u).tmps.toList := by
  cases d with
  | none => exact h
  | some d =>
    simp only [setSlot, Act.put, Array.toList_setIfInBounds]
    exact h.set d hx

theorem put_calm {a : Act} (h : a.defers = []) (d : Option Tmp) (u : Value) : (a.put d u).defers = [] := by
  cases d <;> exact h

theorem guard_ok {σ w s} {a : Act} {ops : Array Oper} (h : Reps σ w s a.tmps.toList) {j d : Nat} {want r : Bool} (hd : (ops[j]?).bind (·.dst) = some d) (hg : guardD (s.getD d .und) want = some r) :
    (yielded ops a.tmps j == some want) = r := by
  unfold yielded
  rw [hd]
  have hcase : ∀ x, s.getD d .und = x → x ≠ .und → ∃ v, a.tmps[d]? = some v ∧ Reps σ w [x] [v] := by
    intro x hx hne
    cases hs : s[d]? with
    | none => simp_all
    | some y =>
      simp [List.getD, hs] at hx
      subst hx
      obtain ⟨v, hv, hr⟩ := h.get hs
      simp_all
  unfold guardD at hg
  split at hg
  · rename_i b hb
    obtain ⟨v, hv, hr⟩ := hcase _ hb (by simp)
    simp only [Option.some.injEq] at hg
    have : v = .bool b := by cases hr; rfl
    simp_all
  · rename_i hb
    obtain ⟨v, hv, hr⟩ := hcase _ hb (by simp)
    simp only [Option.some.injEq] at hg
    have : v = undef := by cases hr; rfl
    subst this
    simp only [Option.bind_some, hv]
    rw [← hg]
    rfl
  · cases hg

section
variable {E : Env} {B : Nat} {w0 : Start} {σ : Sg} {P : Program} {call : CallF} {ops : Array Oper} {st st' : St} {a : Act} {w : World}

theorem stepAt_ok (hE : EnvOK E) (hP : E.P = P) (hcall : CallOK P E B w0 call) {k i : Nat} (hk : freeB st.H k = true) (h : Rel E B w0 σ st a w) (hs : stepAt call E ops k i st = some st')
    {K : Act → World → Prop} {Q : Exit → Act → World → Prop} (hn : ∀ a' w' σ', Rel E B w0 σ' st' a' w' → Ext σ w σ' w' → K a' w') : wpOp P ops Q i K a w := by
  unfold stepAt at hs
  unfold wpOp
  cases ho : ops[i]? with
  | none =>
    simp only [ho, Option.some.injEq] at hs ⊢
    subst hs
    exact hn a w σ h (Ext.refl σ w)
  | some o =>
    simp only [ho] at hs ⊢
    have hop : ∀ x H', opD call E k st.H st.s o = some (x, H') → st' = ⟨setSlot st.s o.dst x, H'⟩ → o.wp P a w K Q := by
      intro x H' hx hst
      refine op_sound hE hP hcall h.inv h.glob hk h.slots o x H' hx K Q (fun u w' σ' h1 h2 h3 => hn _ w' σ' ⟨?_, h.glob.ext h2, ?_, put_calm h.calm _ _⟩ h2)
      · rw [hst]; exact h1
      · rw [hst]; exact put_slots (h.slots.ext h2) h3 o.dst
    have hskip : st' = ⟨setSlot st.s o.dst vundef, st.H⟩ → K (a.put o.dst undef) w := by
      intro hst
      refine hn _ w σ ⟨by rw [hst]; exact h.inv, h.glob, ?_, put_calm h.calm _ _⟩ (Ext.refl σ w)
      rw [hst]
      exact put_slots h.slots (.no .nil) o.dst
    cases hact : actD call E ops k o st with
    | none => simp [hact] at hs
    | some r =>
      obtain ⟨v, H'⟩ := r
      simp only [hact, Option.some.injEq] at hs
      unfold actD at hact
      unfold Region.wanted
      cases hgd : o.guard with
      | none =>
        simp_all
      | some jw =>
        obtain ⟨j, want⟩ := jw
        simp only [hgd] at hact ⊢
        cases hd : (ops[j]?).bind (·.dst) with
        | none => simp [hd] at hact
        | some d =>
          simp only [hd] at hact
          cases hg : guardD (st.s.getD d .und) want with
          | none => simp_all
          | some r =>
            rw [hg] at hact
            simp only [guard_ok h.slots hd hg]
            grind

theorem opsD_ok (hE : EnvOK E) (hP : E.P = P) (hcall : CallOK P E B w0 call) : ∀ (is : List Nat) (st : St) (σ : Sg) (a : Act) (w : World), Rel E B w0 σ st a w → opsD call E ops is st = some st' →
    ∀ {Q : Exit → Act → World → Prop}, (∀ a' w' σ', Rel E B w0 σ' st' a' w' → Ext σ w σ' w' → Q .normal a' w') → wpOps P ops Q is a w := by
  intro is
  induction is with
  | nil =>
    intro st σ a w h hs Q hn
    simp only [opsD, Option.some.injEq] at hs
    subst hs
    exact hn a w σ h (Ext.refl σ w)
  | cons i rest ih =>
    intro st σ a w h hs Q hn
    simp only [opsD] at hs
    cases h1 : stepD call E ops i st with
    | none => simp [h1] at hs
    | some st1 =>
      simp only [h1] at hs
      rw [wpOps_cons]
      exact stepAt_ok hE hP hcall (freeB_end st.H) h h1 (fun a1 w1 σ1 hr1 he1 => ih st1 σ1 a1 w1 hr1 hs (fun a' w' σ' hr he => hn a' w' σ' hr (he1.trans he)))
end

end Go.Proofs.YtpikcdlhgiooaaaGreat.Le

/-
  An evaluator for the model's code over pure values: regions that draw their order.
-/
namespace Go.Proofs.YtpikcdlhgiooaaaGreat.Le
set_option linter.unusedVariables false
open Go.RowKit (Below)

/-! ### an operation looks at its operands only -/

theorem getD_set_ne' {s : List V} {d t : Nat} (h : d ≠ t) (v u : V) : (s.set d v).getD t u = s.getD t u := by
  simp_all

theorem ev_set {E : Env} {s : List V} {d : Option Tmp} {v : V} (x : Operand) (h : ∀ d', d = some d' → x ≠ .tmp d') : ev E (setSlot s d v) x = ev E s x := by
  cases d with
  | none => rfl
  | some d =>
    cases x with
    | tmp t => exact getD_set_ne' (fun e => h d rfl (by rw [e])) v .und
    | _ => rfl

theorem map_ev_congr {E : Env} {s s' : List V} (xs : List Operand) (h : ∀ x ∈ xs, ev E s x = ev E s' x) : xs.map (ev E s) = xs.map (ev E s') := List.map_congr_left h

theorem parts_congr {E : Env} {s s' : List V} (ps : Array (Nat × Operand)) (h : ∀ x ∈ (ps.toList.map (·.2)).toArray, ev E s x = ev E s' x) :
    (ps.toList.map fun (i, x) => (i, ev E s x)) = (ps.toList.map fun (i, x) => (i, ev E s' x)) := List.map_congr_left fun p hp => by
  grind

theorem opD_congr {call : CallF} {E : Env} {k : Nat} {H : Heap} {s s' : List V} {o : Oper} (h : ∀ x ∈ o.op.operands, ev E s x = ev E s' x) : opD call E k H s o = opD call E k H s' o := by
  obtain ⟨dst, op, type, pos, after, guard⟩ := o
  simp only at h
  cases op <;> simp only [Op.operands] at h <;> simp only [opD]
  case assign x =>
    have hx : ev E s x = ev E s' x := h x (by simp)
    split <;> simp_all
  case makeMap t r => cases r <;> simp_all
  case build t ps => rw [parts_congr ps h]
  case buildSlice t n ps => rw [parts_congr ps h]
  case makeFunc fn first captured =>
    have h1 : evs E s first = evs E s' first := map_ev_congr _ fun x hx => h x (by simp at hx; simp [hx])
    have h2 : evs E s captured = evs E s' captured := map_ev_congr _ fun x hx => h x (by simp at hx; simp [hx])
    cases fn <;> simp only [h1, h2]
  case call c =>
    have h1 : evs E s c.args = evs E s' c.args := map_ev_congr _ fun x hx => h x (by simp at hx; simp [Call.operands, hx])
    rw [h1]
    cases hc : c.callee with
    | value f => have hf : ev E s f = ev E s' f := h f (by simp [Call.operands, hc]); simp only [hf]
    | builtin b => cases b <;> rfl
    | invoke r n => rfl
  case slice t x lo hi mx =>
    have hx : ev E s x = ev E s' x := h x (by simp)
    have hlo : lo.map (ev E s) = lo.map (ev E s') := by cases lo <;> simp_all
    have hhi : hi.map (ev E s) = hi.map (ev E s') := by cases hi <;> simp_all
    have hmx : mx.map (ev E s) = mx.map (ev E s') := by cases mx <;> simp_all
    rw [hx, hlo, hhi, hmx]
  all_goals simp_all

theorem looks_op {ops : Array Oper} {o : Oper} {d : Tmp} (h : d ∉ o.looksAt ops) : ∀ x ∈ o.op.operands, x ≠ .tmp d := fun x hx e => h (by
  subst e
  exact List.mem_append_left _ (List.mem_filterMap.2 ⟨.tmp d, by simpa using hx, rfl⟩))

theorem opD_set {call : CallF} {E : Env} {k : Nat} {H : Heap} {s : List V} {o : Oper} {ops : Array Oper} {d : Option Tmp} {v : V} (h : ∀ d', d = some d' → d' ∉ o.looksAt ops) :
    opD call E k H (setSlot s d v) o = opD call E k H s o :=
  opD_congr fun x hx => ev_set x fun d' hd => looks_op (h d' hd) x hx

theorem refsO_set {E : Env} {s : List V} {o : Oper} {ops : Array Oper} {d : Option Tmp} {v : V} (h : ∀ d', d = some d' → d' ∉ o.looksAt ops) : refsO E (setSlot s d v) o = refsO E s o := by
  unfold refsO
  rw [← List.flatMap_map, ← List.flatMap_map (f := ev E s)]
  congr 1
  exact List.map_congr_left fun x hx => ev_set x fun d' hd => looks_op (h d' hd) x (by simpa using hx)

theorem quietAt_set {E : Env} {s : List V} {o : Oper} {ops : Array Oper} {d : Option Tmp} {v : V} (h : ∀ d', d = some d' → d' ∉ o.looksAt ops) : quietAt E (setSlot s d v) o = quietAt E s o := by
  unfold quietAt
  cases hop : o.op with
  | call c =>
    simp only
    cases hcal : c.callee with
    | value f =>
      cases f with
      | tmp t =>
        have hx : Operand.tmp t ∈ o.op.operands := by simp [hop, Op.operands, Call.operands, hcal]
        have := ev_set (E := E) (s := s) (v := v) (.tmp t) fun d' hd => looks_op (h d' hd) _ hx
        simp only [show (setSlot s d v).getD t .und = s.getD t .und from this]
      | _ => rfl
    | _ => rfl
  | _ => rfl

theorem actD_set {call : CallF} {E : Env} {k : Nat} {H : Heap} {s : List V} {o : Oper} {ops : Array Oper} {d : Option Tmp} {v : V} (h : ∀ d', d = some d' → d' ∉ o.looksAt ops) :
    actD call E ops k o ⟨setSlot s d v, H⟩ = actD call E ops k o ⟨s, H⟩ := by
  unfold actD
  cases hg : o.guard with
  | none => exact opD_set h
  | some jw =>
    obtain ⟨j, want⟩ := jw
    simp only
    cases hd : (ops[j]?).bind (·.dst) with
    | none => rfl
    | some g =>
      have hne : ∀ d', d = some d' → d' ≠ g := fun d' hd' e => h d' hd' (by
        subst e
        exact List.mem_append_right _ (by simp [hg, hd]))
      have : (setSlot s d v).getD g .und = s.getD g .und := by
        cases d with
        | none => rfl
        | some d => exact getD_set_ne' (hne d rfl) v .und
      simp only [this]
      rw [opD_set h]

/-! ### heaps that agree on what an operation names -/

def Box.low (b : Box) : Box := { b with floor := 0 }
def SimAt (R : List Nat) (H H' : Heap) : Prop := ∀ id ∈ R, (H[id]?).map Box.low = (H'[id]?).map Box.low

theorem boxAt_low {H H' : Heap} {id tot : Nat} {b : Box} (h : (H[id]?).map Box.low = (H'[id]?).map Box.low) (hb : boxAt H id tot = some b) : ∃ b', boxAt H' id tot = some b' ∧ b'.low = b.low := by
  unfold boxAt at *
  cases h1 : H[id]? with
  | none => simp [h1] at hb
  | some b0 =>
    simp only [h1] at hb h
    cases h2 : H'[id]? with
    | none => simp [h2] at h
    | some b1 =>
      simp only [h2, Option.map_some, Option.some.injEq] at h
      split at hb
      · rename_i hc
        simp only [Option.some.injEq] at hb
        subst hb
        refine ⟨b1, ?_, h.symm⟩
        have e1 : b1.live = b0.live := (congrArg Box.live h).symm
        have e2 : b1.xs = b0.xs := (congrArg Box.xs h).symm
        simp only [e1, e2, hc, if_true]
      · cases hb

theorem low_eqs {b b' : Box} (h : b'.low = b.low) : b'.row = b.row ∧ b'.nilp = b.nilp ∧ b'.elem = b.elem ∧ b'.esz = b.esz ∧ b'.xs = b.xs :=
  ⟨congrArg (·.row) h, congrArg (·.nilp) h, congrArg (·.elem) h, congrArg (·.esz) h, congrArg (·.xs) h⟩

theorem boxAt_none {H H' : Heap} {id tot : Nat} (h : (H[id]?).map Box.low = (H'[id]?).map Box.low) (hb : boxAt H id tot = none) : boxAt H' id tot = none := by
  cases hb' : boxAt H' id tot with
  | none => rfl
  | some b =>
    obtain ⟨b', h1, _⟩ := boxAt_low h.symm hb'
    simp_all

section
variable {H H' : Heap}

theorem frz0_sim {x : V} (h : SimAt (ref1 x) H H') : frz0 H' x = frz0 H x := by
  unfold frz0
  split <;> try rfl
  rename_i id off len tot
  cases hb : boxAt H id tot with
  | none => rw [boxAt_none (h id (by simp [ref1])) hb]
  | some b =>
    obtain ⟨b', h1, h2⟩ := boxAt_low (h id (by simp [ref1])) hb
    obtain ⟨e1, e2, e3, e4, e5⟩ := low_eqs h2
    simp_all

theorem frzL_sim {xs : List V} (h : SimAt (xs.flatMap ref1) H H') : frzL H' xs = frzL H xs := by
  induction xs with
  | nil => rfl
  | cons x xs ih =>
    simp only [frzL]
    rw [frz0_sim (fun i hi => h i (by simp [hi])), ih (fun i hi => h i (by rw [List.flatMap_cons]; exact List.mem_append_right _ hi))]

theorem frz_sim {x : V} (h : SimAt (refsV x) H H') : frz H' x = frz H x := by
  unfold frz
  split
  · rw [frzL_sim (by simpa [refsV] using h)]
  · rename_i hne
    refine frz0_sim (fun i hi => h i ?_)
    cases x with
    | fn f a b => simp [ref1] at hi
    | agg cs => simp_all
    | _ => exact hi

theorem frzAll_sim {xs : List V} (h : SimAt (xs.flatMap refsV) H H') : frzAll H' xs = frzAll H xs := by
  induction xs with
  | nil => rfl
  | cons x xs ih =>
    simp only [frzAll]
    rw [frz_sim (fun i hi => h i (by simp [hi])), ih (fun i hi => h i (by rw [List.flatMap_cons]; exact List.mem_append_right _ hi))]

theorem lenOf_sim {x : V} (h : SimAt (refsV x) H H') : lenOf H' x = lenOf H x := by
  unfold lenOf
  split <;> try rfl
  rename_i id off len tot
  cases hb : boxAt H id tot with
  | none => rw [boxAt_none (h id (by simp [refsV, ref1])) hb]
  | some b =>
    obtain ⟨b', h1, h2⟩ := boxAt_low (h id (by simp [refsV, ref1])) hb
    simp only [h1]

theorem elemsOf_sim {x : V} (h : SimAt (refsV x) H H') : elemsOf H' x = elemsOf H x := by
  unfold elemsOf
  split <;> try rfl
  rename_i id off len tot
  cases hb : boxAt H id tot with
  | none => rw [boxAt_none (h id (by simp [refsV, ref1])) hb]
  | some b =>
    obtain ⟨b', h1, h2⟩ := boxAt_low (h id (by simp [refsV, ref1])) hb
    obtain ⟨e1, e2, e3, e4, e5⟩ := low_eqs h2
    simp only [h1, e1, e5]

theorem eszIs_sim {x : V} {n : Nat} (h : SimAt (refsV x) H H') : eszIs H' x n = eszIs H x n := by
  unfold eszIs
  split <;> try rfl
  rename_i id off len tot
  cases hb : boxAt H id tot with
  | none => rw [boxAt_none (h id (by simp [refsV, ref1])) hb]
  | some b =>
    obtain ⟨b', h1, h2⟩ := boxAt_low (h id (by simp [refsV, ref1])) hb
    obtain ⟨e1, e2, e3, e4, e5⟩ := low_eqs h2
    simp only [h1, e4]

theorem loadD_sim {E : Env} {t : TypeId} {a : V} (h : SimAt (refsV a) H H') : loadD E H' t a = loadD E H t a := by
  unfold loadD
  split
  · rfl
  · split <;> try rfl
    rename_i id j off tot
    cases hb : boxAt H id tot with
    | none => rw [boxAt_none (h id (by simp [refsV, ref1])) hb]
    | some b =>
      obtain ⟨b', h1, h2⟩ := boxAt_low (h id (by simp [refsV, ref1])) hb
      obtain ⟨e1, e2, e3, e4, e5⟩ := low_eqs h2
      simp only [h1, e5]

theorem indexAddrD_sim {E : Env} {t : TypeId} {x i : V} (h : SimAt (refsV x) H H') : indexAddrD E H' t x i = indexAddrD E H t x i := by
  unfold indexAddrD
  split <;> try rfl
  split <;> try rfl
  rename_i id off len tot hty
  cases hb : boxAt H id tot with
  | none => rw [boxAt_none (h id (by simp [refsV, ref1])) hb]
  | some b =>
    obtain ⟨b', h1, h2⟩ := boxAt_low (h id (by simp [refsV, ref1])) hb
    obtain ⟨e1, e2, e3, e4, e5⟩ := low_eqs h2
    simp only [h1, e4]

theorem sliceFits_sim {E : Env} {t : TypeId} {x : V} (h : SimAt (refsV x) H H') : sliceFits E H' t x = sliceFits E H t x := by
  unfold sliceFits
  split <;> try rfl
  split <;> try rfl
  split <;> try rfl
  rw [eszIs_sim h]

end

/-! ### what an operation that does not write does to the boxes -/

def eff (ids : List Nat) (nb : Option Box) (k : Nat) (H : Heap) : Heap :=
  match nb with
  | none => bump H ids
  | some b => place (bump H ids) k b

/-- What the pure calls are asked for. -/
def PureOK (E : Env) (call : CallF) : Prop :=
  ∀ f, valF E f = true → ∀ args H v H1, call f args H = some (v, H1) →
    H1 = bump H (args.flatMap idsA) ∧ ∀ H', SimAt (args.flatMap refsV) H H' → call f args H' = some (v, bump H' (args.flatMap idsA))
/-- What is asked of calls that are given no boxes, and may leave some. -/
def FreeOK (E : Env) (call : CallF) : Prop :=
  ∀ f, freeF E f = true → ∀ args H v H1, call f args H = some (v, H1) →
    ∃ ids nbs, (∀ i ∈ ids, i ∈ args.flatMap refsV) ∧ H1 = bump H ids ++ nbs ∧ ∀ H', H'.length = H.length → SimAt (args.flatMap refsV) H H' → call f args H' = some (v, bump H' ids ++ nbs)
/-- What is asked of calls that are given rows: they look at rows alone. -/
def RowOK (E : Env) (call : CallF) : Prop :=
  ∀ f, valF E f = false → freeF E f = false → rowF E f = true → ∀ args H v H1 n b0 b, call f args H = some (v, H1) → H[n]? = some b0 → b0.row = false → b.row = false →
    H1[n]? = some b0 ∧ call f args (H.set n b) = some (v, H1.set n b)
/-- A call takes no box away. -/
def LenOK (call : CallF) : Prop := ∀ f args H r H', call f args H = some (r, H') → H.length ≤ H'.length
structure CallsOK (E : Env) (call : CallF) : Prop where
  pure : PureOK E call
  free : FreeOK E call
  row : RowOK E call
  len : LenOK call
theorem place_len (H : Heap) (k : Nat) (b : Box) : H.length ≤ (place H k b).length := by
  unfold place
  split <;> simp
theorem storeD_len {E : Env} {H H' : Heap} {t : TypeId} {a v : V} (h : storeD E H t a v = some H') : H.length ≤ H'.length := by
  unfold storeD at h
  repeat' split at h
  all_goals first
    | (cases h; done)
    | (simp only [Option.some.injEq, Prod.mk.injEq] at h; obtain ⟨_, rfl⟩ := h; simp [bump_length, place_len]; done)
    | (simp only [Option.some.injEq] at h; subst h; simp [bump_length, place_len]; done)
theorem appendD_len {E : Env} {k : Nat} {H H' : Heap} {t u : TypeId} {s x r : V} (h : appendD E k H t u s x = some (r, H')) : H.length ≤ H'.length := by
  unfold appendD at h
  repeat' split at h
  all_goals first
    | (cases h; done)
    | (simp only [Option.some.injEq, Prod.mk.injEq] at h; obtain ⟨_, rfl⟩ := h; simp [bump_length, place_len]; done)
    | (simp only [Option.some.injEq] at h; subst h; simp [bump_length, place_len]; done)
theorem copyD_len {E : Env} {H H' : Heap} {t u : TypeId} {d x r : V} (h : copyD E H t u d x = some (r, H')) : H.length ≤ H'.length := by
  unfold copyD at h
  repeat' split at h
  all_goals first
    | (cases h; done)
    | (simp only [Option.some.injEq, Prod.mk.injEq] at h; obtain ⟨_, rfl⟩ := h; simp [bump_length, place_len]; done)
    | (simp only [Option.some.injEq] at h; subst h; simp [bump_length, place_len]; done)
theorem clearD_len {E : Env} {H H' : Heap} {t : TypeId} {x : V} (h : clearD E H t x = some H') : H.length ≤ H'.length := by
  unfold clearD at h
  repeat' split at h
  all_goals first
    | (cases h; done)
    | (simp only [Option.some.injEq] at h; subst h; simp; done)
theorem mapW_len {E : Env} {H H' : Heap} {t : TypeId} {m x : V} {f} (h : mapW E H t m x f = some H') : H.length ≤ H'.length := by
  unfold mapW at h
  repeat' split at h
  all_goals first
    | (cases h; done)
    | (obtain ⟨xs, _, rfl⟩ := Option.map_eq_some_iff.1 h; simp)
theorem mapUpD_len {E : Env} {H H' : Heap} {t : TypeId} {m x v : V} (h : mapUpD E H t m x v = some H') : H.length ≤ H'.length := by
  unfold mapUpD at h
  split at h
  · split at h
    · have := mapW_len h
      rw [bump_length] at this
      exact this
    · cases h
  · cases h
theorem buildSliceD_len {E : Env} {k n : Nat} {H H' : Heap} {t : TypeId} {ps : List (Nat × V)} {r : V} (h : buildSliceD E k H t n ps = some (r, H')) : H.length ≤ H'.length := by
  unfold buildSliceD at h
  repeat' split at h
  all_goals first
    | (cases h; done)
    | (simp only [Option.some.injEq, Prod.mk.injEq] at h; obtain ⟨_, rfl⟩ := h; simp [bump_length, place_len]; done)
    | (simp only [Option.some.injEq] at h; subst h; simp [bump_length, place_len]; done)
    | (simp only [Option.some.injEq, Prod.mk.injEq] at h; obtain ⟨_, rfl⟩ := h; refine Nat.le_trans ?_ (place_len _ _ _); rw [bump_length]; exact Nat.le_refl _)
theorem convS_len {E : Env} {k : Nat} {H H' : Heap} {t : TypeId} {x r : V} (h : convS E k H t x = some (r, H')) : H.length ≤ H'.length := by
  unfold convS at h
  repeat' split at h
  all_goals first
    | (cases h; done)
    | (simp only [Option.some.injEq, Prod.mk.injEq] at h; obtain ⟨_, rfl⟩ := h; simp [bump_length, place_len]; done)
    | (simp only [Option.some.injEq] at h; subst h; simp [bump_length, place_len]; done)
theorem convD_len {E : Env} {H H' : Heap} {t u : TypeId} {x r : V} (h : convD E H t u x = some (r, H')) : H.length ≤ H'.length := by
  unfold convD at h
  repeat' split at h
  all_goals first
    | (cases h; done)
    | (simp only [Option.some.injEq, Prod.mk.injEq] at h; obtain ⟨_, rfl⟩ := h; simp [bump_length, place_len]; done)
    | (simp only [Option.some.injEq] at h; subst h; simp [bump_length, place_len]; done)
theorem sliceA_len {E : Env} {H H' : Heap} {n : Nat} {e : TypeId} {x r : V} {lo hi mx : Option V} (h : sliceA E H n e x lo hi mx = some (r, H')) : H.length ≤ H'.length := by
  unfold sliceA at h
  repeat' split at h
  all_goals first
    | (cases h; done)
    | (simp only [Option.some.injEq, Prod.mk.injEq] at h; obtain ⟨_, rfl⟩ := h; simp [bump_length, place_len]; done)
    | (simp only [Option.some.injEq] at h; subst h; simp [bump_length, place_len]; done)
theorem sliceD_len {E : Env} {H H' : Heap} {t : TypeId} {x r : V} {lo hi mx : Option V} (h : sliceD E H t x lo hi mx = some (r, H')) : H.length ≤ H'.length := by
  unfold sliceD at h
  repeat' split at h
  all_goals first
    | (cases h; done)
    | (simp only [Option.some.injEq, Prod.mk.injEq] at h; obtain ⟨_, rfl⟩ := h; simp [bump_length, place_len]; done)
    | (simp only [Option.some.injEq] at h; subst h; simp [bump_length, place_len]; done)
theorem opD_len {call : CallF} {E : Env} (hl : LenOK call) {k : Nat} {H H1 : Heap} {s : List V} {o : Oper} {v : V} (h : opD call E k H s o = some (v, H1)) : H.length ≤ H1.length := by
  have hp := fun b => place_len H k b
  have fix : ∀ (y : Option V), y.map (·, H) = some (v, H1) → H.length ≤ H1.length := fun y hy => by
    cases y with
    | none => cases hy
    | some y => simp only [Option.map_some, Option.some.injEq, Prod.mk.injEq] at hy; rw [← hy.2]; exact Nat.le_refl _
  obtain ⟨dst, op, type, pos, after, guard⟩ := o
  cases op <;> simp only [opD] at h <;> try (cases h; done)
  case store t a x =>
    cases hs : storeD E H t (ev E s a) (ev E s x) with
    | none => simp [hs] at h
    | some H2 => simp only [hs, Option.map_some, Option.some.injEq, Prod.mk.injEq] at h; rw [← h.2]; exact storeD_len hs
  case mapUpdate t m x y =>
    cases hs : mapUpD E H t (ev E s m) (ev E s x) (ev E s y) with
    | none => simp [hs] at h
    | some H2 => simp only [hs, Option.map_some, Option.some.injEq, Prod.mk.injEq] at h; rw [← h.2]; exact mapUpD_len hs
  case insert t m x y =>
    cases hs : mapUpD E H t (ev E s m) (ev E s x) (ev E s y) with
    | none => simp [hs] at h
    | some H2 => simp only [hs, Option.map_some, Option.some.injEq, Prod.mk.injEq] at h; rw [← h.2]; exact mapUpD_len hs
  case buildSlice t n ps => exact buildSliceD_len h
  case convert src dst2 x =>
    split at h
    · exact convS_len h
    · exact convD_len h
  case slice t x lo hi mx =>
    split at h
    · exact sliceA_len h
    · exact sliceD_len h
  case call c =>
    split at h
    · unfold builtinD at h
      split at h
      · split at h
        · obtain ⟨n, _, hn⟩ := Option.map_eq_some_iff.1 h
          simp only [Prod.mk.injEq] at hn
          rw [← hn.2]
          exact Nat.le_refl _
        · cases h
      · exact appendD_len h
      · exact copyD_len h
      · obtain ⟨H2, hs, hn⟩ := Option.map_eq_some_iff.1 h
        simp only [Prod.mk.injEq] at hn
        rw [← hn.2]
        exact mapW_len hs
      · obtain ⟨H2, hs, hn⟩ := Option.map_eq_some_iff.1 h
        simp only [Prod.mk.injEq] at hn
        rw [← hn.2]
        exact clearD_len hs
      · exact fix _ h
      · exact fix _ h
      · cases h
    · split at h
      · exact hl _ _ _ _ _ h
      · cases h
    · cases h
  case makeMap t r => cases r <;> grind
  case makeFunc fn first caps => cases fn <;> grind
  all_goals first | exact fix _ h | grind
theorem stepAt_len {call : CallF} {E : Env} (hl : LenOK call) {ops : Array Oper} {k i : Nat} {st st' : St} (h : stepAt call E ops k i st = some st') : st.H.length ≤ st'.H.length := by
  unfold stepAt at h
  split at h
  · cases h; exact Nat.le_refl _
  · rename_i o _
    cases ha : actD call E ops k o st with
    | none => simp [ha] at h
    | some r =>
      obtain ⟨v, H1⟩ := r
      simp only [ha, Option.some.injEq] at h
      rw [← h]
      unfold actD at ha
      cases hg : o.guard with
      | none => simp only [hg] at ha; exact opD_len hl ha
      | some jw =>
        obtain ⟨j, want⟩ := jw
        simp only [hg] at ha
        cases hd : (ops[j]?).bind (·.dst) with
        | none => simp [hd] at ha
        | some d =>
          simp only [hd] at ha
          cases hgd : guardD (st.s.getD d .und) want with
          | none => rw [hgd] at ha; cases ha
          | some r =>
            rw [hgd] at ha
            cases r with
            | true => simp only at ha; exact opD_len hl ha
            | false =>
              simp only [Option.some.injEq, Prod.mk.injEq] at ha
              rw [← ha.2]
              exact Nat.le_refl _
theorem stepR_len {call : CallF} {E : Env} (hl : LenOK call) {ops : Array Oper} {ms : List Nat} {lt : List (Nat × (Nat ⊕ Nat))} {s0 : List V} {base m i : Nat} {st st' : St} (h : stepR call E ops ms lt s0 base m i st = some st') : st.H.length ≤ st'.H.length := by
  unfold stepR at h
  split at h
  · cases h; exact Nat.le_refl _
  · split at h
    · split at h
      · split at h
        · split at h
          · cases h
          · exact stepAt_len hl h
        · cases h
      · exact stepAt_len hl h
    · cases h
theorem freeF_row {E : Env} {f : FuncId} (h : freeF E f = true) : rowF E f = true := by
  unfold freeF at h
  unfold rowF
  simp only [Bool.and_eq_true] at h ⊢
  refine ⟨h.1, ?_⟩
  cases hh : E.hm f [] with
  | none => rw [hh] at h; exact h.2
  | some hs =>
    rw [hh] at h
    have : hs.fb = [] := by simpa using h.2
    simp [this]

theorem ids1_ref {x : V} {i : Nat} (h : i ∈ ids1 x) : i ∈ ref1 x := by
  cases x <;> simp_all [ids1, ref1]
theorem idsA_refs {x : V} {i : Nat} (h : i ∈ idsA x) : i ∈ refsV x := by
  cases x with
  | agg cs =>
    simp only [idsA, refsV, List.mem_flatMap] at *
    obtain ⟨c, hc, hi⟩ := h
    exact ⟨c, hc, ids1_ref hi⟩
  | _ => simp_all [idsA, refsV, ids1, ref1]

theorem idsAs_refs {xs : List V} {i : Nat} (h : i ∈ xs.flatMap idsA) : i ∈ xs.flatMap refsV := by
  simp only [List.mem_flatMap] at *
  obtain ⟨c, hc, hi⟩ := h
  exact ⟨c, hc, idsA_refs hi⟩

theorem map_fix {y : Option V} {H H1 : Heap} {v : V} (h : y.map (·, H) = some (v, H1)) : y = some v ∧ H1 = H := by
  cases y with
  | none => cases h
  | some x => simp_all

/-- How an operation that does not write turns the boxes. -/
def Eff (call : CallF) (E : Env) (k : Nat) (H : Heap) (s : List V) (o : Oper) (v : V) (H1 : Heap) : Prop :=
  ∃ ids nb, (∀ i ∈ ids, i ∈ refsO E s o) ∧ (nb.isSome = true → clsOf E o = .a) ∧ H1 = eff ids nb k H ∧
    ∀ H' k', (clsOf E o = .a → k' = k) → SimAt (refsO E s o) H H' → opD call E k' H' s o = some (v, eff ids nb k' H')

theorem eff_nil (k : Nat) (H : Heap) : eff [] none k H = H := rfl

theorem eff_read {call : CallF} {E : Env} {k : Nat} {H H1 : Heap} {s : List V} {o : Oper} {v : V} {y : Heap → Option V} (he : ∀ H k, opD call E k H s o = (y H).map (·, H))
    (h : opD call E k H s o = some (v, H1)) (hy : ∀ H', SimAt (refsO E s o) H H' → y H' = y H) : Eff call E k H s o v H1 := by
  rw [he] at h
  obtain ⟨h1, h2⟩ := map_fix h
  exact ⟨[], none, by simp, by simp, h2, fun H' k' _ hs => by rw [he, hy H' hs, h1]; rfl⟩

theorem sim_op {E : Env} {s : List V} {o : Oper} {H H' : Heap} (h : SimAt (refsO E s o) H H') {x : Operand} (hx : x ∈ o.op.operands) : SimAt (refsV (ev E s x)) H H' := fun i hi =>
  h i (List.mem_flatMap.2 ⟨x, by simpa using hx, hi⟩)

/-- Slots only. -/
theorem opD_s {call : CallF} {E : Env} {k : Nat} {H H1 : Heap} {s : List V} {o : Oper} {v : V} (hc : clsOf E o = .s) (h : opD call E k H s o = some (v, H1)) :
    H1 = H ∧ ∀ H' k', opD call E k' H' s o = some (v, H') := by
  have key : ∀ y : Option V, (∀ H k, opD call E k H s o = y.map (·, H)) → H1 = H ∧ ∀ H' k', opD call E k' H' s o = some (v, H') := by
    intro y he
    rw [he] at h
    obtain ⟨h1, h2⟩ := map_fix h
    exact ⟨h2, fun H' k' => by rw [he, h1]; rfl⟩
  obtain ⟨dst, op, type, pos, after, guard⟩ := o
  cases op <;> simp only [clsOf] at hc <;> try (cases hc; done)
  case convert => grind
  case move x => exact key (some (ev E s x)) (fun H k => rfl)
  case pick c x y =>
    refine key (match ev E s c with | .lit (.bool t) => some (if t then ev E s x else ev E s y) | _ => none) (fun H k => ?_)
    simp only [opD]
    split <;> simp_all
  case build t ps => exact key (buildD E t (ps.toList.map fun (i, x) => (i, ev E s x))) (fun H k => rfl)
  case binOp op t x y z => exact key (binD E op t (ev E s x) (ev E s y)) (fun H k => rfl)
  case unOp op t x => exact key (unD op (ev E s x)) (fun H k => rfl)
  case sliceToArrayPointer t x => exact key (arrA E t (ev E s x)) (fun H k => rfl)
  case field t x f => exact key (fieldD E t (ev E s x) f) (fun H k => rfl)
  case fieldAddr t x f => exact key (fieldAddrD E t (ev E s x) f) (fun H k => rfl)
  case index t x i => exact key (indexD E t (ev E s x) (ev E s i)) (fun H k => rfl)
  case nilCheck x =>
    refine key (match isNilV (ev E s x) with | some false => some (ev E s x) | _ => none) (fun H k => ?_)
    simp only [opD]
    split <;> simp_all
  case extract x i =>
    refine key (match ev E s x with | .tup vs => vs[i]? | _ => none) (fun H k => ?_)
    simp only [opD]
    split <;> simp_all
  case makeFunc fn first caps =>
    cases fn with
    | func f => exact key (some (.fn f (evs E s first) (evs E s caps))) (fun H k => rfl)
    | _ => simp [opD] at h
  case assign x =>
    by_cases hx : x = .const (.slice none 0 0)
    · subst hx; cases hc
    · refine key (some (ev E s x)) (fun H k => ?_)
      unfold opD
      split <;> simp_all
  case call c =>
    split at hc
    · cases hc
    · rename_i hcal
      exact key (minmax false (evs E s c.args)) (fun H k => by simp only [opD, hcal]; rfl)
    · rename_i hcal
      exact key (minmax true (evs E s c.args)) (fun H k => by simp only [opD, hcal]; rfl)
    · grind
    · grind
    · cases hc

theorem convD_heap {E : Env} {H H' : Heap} {src dst : TypeId} {x r : V} (h : convD E H src dst x = some (r, H')) : H' = H := by
  unfold convD at h
  grind

theorem sliceD_heap {E : Env} {H H' : Heap} {t : TypeId} {x r : V} {lo hi : Option V} (h : sliceD E H t x lo hi none = some (r, H')) : H' = H := by
  unfold sliceD at h
  grind

theorem sim_args {E : Env} {s : List V} {o : Oper} {c : Call} (hop : o.op = .call c) {H H' : Heap} (h : SimAt (refsO E s o) H H') : SimAt ((evs E s c.args).flatMap refsV) H H' := by
  intro i hi
  simp only [evs, List.mem_flatMap, List.mem_map] at hi
  obtain ⟨v, ⟨x, hx, rfl⟩, hi⟩ := hi
  refine h i (List.mem_flatMap.2 ⟨x, ?_, hi⟩)
  simp at hx
  simp [hop, Op.operands, Call.operands, hx]

theorem args_refs {E : Env} {s : List V} {o : Oper} {c : Call} (hop : o.op = .call c) {i : Nat} (hi : i ∈ (evs E s c.args).flatMap refsV) : i ∈ refsO E s o := by
  simp only [evs, List.mem_flatMap, List.mem_map] at hi
  obtain ⟨v, ⟨x, hx, rfl⟩, hi⟩ := hi
  refine List.mem_flatMap.2 ⟨x, ?_, hi⟩
  simp at hx
  simp [hop, Op.operands, Call.operands, hx]

theorem parts_refs {E : Env} {s : List V} {o : Oper} {t : TypeId} {n : Nat} {ps : Array (Nat × Operand)} (hop : o.op = .buildSlice t n ps) {i : Nat}
    (hi : i ∈ ((ps.toList.map fun (i, x) => (i, ev E s x)).map (·.2)).flatMap refsV) : i ∈ refsO E s o := by
  simp only [List.map_map, List.mem_flatMap, List.mem_map] at hi
  obtain ⟨v, ⟨p, hp, rfl⟩, hi⟩ := hi
  refine List.mem_flatMap.2 ⟨p.2, ?_, hi⟩
  simp only [hop, Op.operands]
  grind

theorem esz_sim {H H' : Heap} {id : Nat} (h : (H[id]?).map Box.low = (H'[id]?).map Box.low) : (H'.getD id default).esz = (H.getD id default).esz := by
  simp only [List.getD]
  cases h1 : H[id]? with
  | none => grind
  | some b => cases h2 : H'[id]? with
    | none => simp [h1, h2] at h
    | some b' =>
      simp only [h1, h2, Option.map_some, Option.some.injEq] at h
      show b'.esz = b.esz
      exact (congrArg Box.esz h).symm
theorem bump_nil (H : Heap) : bump H [] = H := rfl
theorem sliceD_eff {E : Env} {H H1 : Heap} {t : TypeId} {x v : V} {lo hi mx : Option V} (h : sliceD E H t x lo hi mx = some (v, H1)) :
    ∃ ids, (∀ i ∈ ids, i ∈ refsV x) ∧ H1 = bump H ids ∧ ∀ H', SimAt (refsV x) H H' → sliceD E H' t x lo hi mx = some (v, bump H' ids) := by
  cases mx with
  | none =>
    have := sliceD_heap h
    subst this
    refine ⟨[], by simp, (bump_nil _).symm, fun H' hs => ?_⟩
    rw [bump_nil]
    have e : (sliceD E H' t x lo hi none).map (·.1) = (sliceD E H1 t x lo hi none).map (·.1) := by
      simp only [sliceD]
      rw [sliceFits_sim hs, lenOf_sim hs]
      split
      · split
        · rfl
        · split
          · rfl
          grind
      · rfl
    cases hc : sliceD E H' t x lo hi none with
    | none => simp_all
    | some r =>
      obtain ⟨r, H2⟩ := r
      have := sliceD_heap hc
      simp_all
  | some m =>
    simp only [sliceD] at h ⊢
    split at h
    · rename_i hf
      split at h
      · cases h
      · rename_i n hn
        split at h
        · cases h
        · rename_i hh hbh
          split at h
          · cases h
          · rename_i l hbl
            have key : ∀ H', SimAt (refsV x) H H' → sliceFits E H' t x = true ∧ lenOf H' x = some n ∧ elemsOf H' x = elemsOf H x := fun H' hs => ⟨by rw [sliceFits_sim hs]; exact hf, by rw [lenOf_sim hs]; exact hn, elemsOf_sim hs⟩
            split at h
            · rename_i k xs b e hk hxs
              split at h
              · rename_i hkh
                simp only [Option.some.injEq, Prod.mk.injEq] at h
                obtain ⟨rfl, rfl⟩ := h
                refine ⟨[], by simp, (bump_nil _).symm, fun H' hs => ?_⟩
                obtain ⟨q1, q2, q3⟩ := key H' hs
                rw [if_pos q1, q2, bump_nil]
                simp only [hbh, hbl, hk, q3, hxs, if_pos hkh]
              · cases h
            · rename_i k xs b e hk hxs
              split at h
              · rename_i hkh
                simp only [Option.some.injEq, Prod.mk.injEq] at h
                obtain ⟨rfl, rfl⟩ := h
                refine ⟨[], by simp, (bump_nil _).symm, fun H' hs => ?_⟩
                obtain ⟨q1, q2, q3⟩ := key H' hs
                rw [if_pos q1, q2, bump_nil]
                simp only [hbh, hbl, hk, q3, hxs, if_pos hkh]
              · cases h
            · rename_i k xs id off len tot hk hxs
              split at h
              · rename_i hkh
                simp only [Option.some.injEq, Prod.mk.injEq] at h
                obtain ⟨rfl, rfl⟩ := h
                refine ⟨[id], by simp [refsV, ref1], rfl, fun H' hs => ?_⟩
                obtain ⟨q1, q2, q3⟩ := key H' hs
                rw [if_pos q1, q2]
                simp only [hbh, hbl, hk, q3, hxs, if_pos hkh, esz_sim (hs id (by simp [refsV, ref1]))]
              · cases h
            · cases h
    · cases h
theorem sliceA_eff {E : Env} {H H1 : Heap} {n : Nat} {e : TypeId} {x v : V} {lo hi mx : Option V} (h : sliceA E H n e x lo hi mx = some (v, H1)) :
    ∃ ids, (∀ i ∈ ids, i ∈ refsV x) ∧ H1 = bump H ids ∧ ∀ H', SimAt (refsV x) H H' → sliceA E H' n e x lo hi mx = some (v, bump H' ids) := by
  unfold sliceA at h
  split at h
  · rename_i id i off tot m' hm'
    cases hb : boxAt H id tot with
    | none => simp [hb] at h
    | some b =>
      simp only [hb] at h
      split at h
      · rename_i cs hrow hxs
        split at h
        · rename_i hc
          simp only [Option.some.injEq, Prod.mk.injEq] at h
          obtain ⟨rfl, rfl⟩ := h
          refine ⟨[id], by simp [refsV, ref1], rfl, fun H' hs => ?_⟩
          obtain ⟨b', h1, h2⟩ := boxAt_low (hs id (by simp [refsV, ref1])) hb
          obtain ⟨e1, e2, e3, e4, e5⟩ := low_eqs h2
          unfold sliceA
          simp_all
        · cases h
      · cases h
  · cases h

theorem lookH_of {E : Env} {H : Heap} {t : TypeId} {ok : Bool} {m x r : V} (h : lookD E t ok m x = some r) : lookH E H t ok m x = some r := by
  unfold lookH
  split
  · rename_i id
    unfold lookD at h
    split at h <;> simp_all
  · exact h
theorem lookH_sim {E : Env} {H H' : Heap} {t : TypeId} {ok : Bool} {m x : V} (hs : SimAt (refsV m) H H') : lookH E H' t ok m x = lookH E H t ok m x := by
  unfold lookH
  split
  · rename_i id
    have h := hs id (by simp [refsV, ref1])
    cases h1 : H[id]? with
    | none =>
      cases h2 : H'[id]? with
      | none => rfl
      | some b' => simp [h1, h2] at h
    | some b =>
      cases h2 : H'[id]? with
      | none => simp [h1, h2] at h
      | some b' =>
        simp only [h1, h2, Option.map_some, Option.some.injEq] at h
        obtain ⟨e1, e2, e3, e4, e5⟩ := low_eqs h.symm
        have e6 : b'.nilp = b.nilp := (congrArg Box.nilp h).symm
        have e7 : b'.live = b.live := (congrArg Box.live h).symm
        have hm : mapB b' = mapB b := by simp only [mapB, e6, e7, e1]
        simp only [hm]
        split
        · simp [*]
        · rfl
  · rfl

/-- Whatever does not write. -/
theorem opD_eff {call : CallF} {E : Env} (hpure : PureOK E call) {k : Nat} {H H1 : Heap} {s : List V} {o : Oper} {v : V} (hc : clsOf E o ≠ .w) (hcc : clsOf E o ≠ .c) (hq : quietAt E s o = true) (h : opD call E k H s o = some (v, H1)) :
    Eff call E k H s o v H1 := by
  by_cases hs : clsOf E o = .s
  · obtain ⟨h1, h2⟩ := opD_s hs h
    exact ⟨[], none, by simp, by simp, h1, fun H' k' _ _ => h2 H' k'⟩
  have mk : ∀ (nb : Option Box), clsOf E o = .a → (nb.isSome = true) → (∀ H k, opD call E k H s o = nb.map fun b => ((if b.row then V.lsl k 0 b.xs.length b.xs.length else V.ptr k 0 0 1), place H k b)) → Eff call E k H s o v H1 := by
    intro nb hca hnb he
    cases nb with
    | none => cases hnb
    | some b =>
      rw [he] at h
      simp only [Option.map_some, Option.some.injEq, Prod.mk.injEq] at h
      obtain ⟨h1, h2⟩ := h
      refine ⟨[], some b, by simp, fun _ => hca, h2.symm, fun H' k' hk _ => ?_⟩
      rw [he, hk hca]
      simp only [Option.map_some, h1]
      rfl
  obtain ⟨dst, op, type, pos, after, guard⟩ := o
  cases op <;> try (refine absurd ?_ hs; simp [clsOf]; done)
  case assign x =>
    by_cases hx : x = .const (.slice none 0 0)
    · subst hx
      cases hti : E.ti type with
      | none => simp [opD, hti] at h
      | some i =>
        obtain ⟨ty, sz, by', z0⟩ := i
        cases ty with
        | slice e => exact mk (some (newBox true false e ((E.size e).getD 0) [])) rfl rfl (fun H k => by simp only [opD, hti, Option.map_some]; rfl)
        | _ => simp [opD, hti] at h
    · refine absurd ?_ hs
      unfold clsOf
      split <;> simp_all
  case alloc t =>
    cases hti : E.ti t with
    | none => simp [opD, hti] at h
    | some i =>
      cases hz : i.zero with
      | none => simp [opD, hti, hz] at h
      | some z =>
        by_cases hcond : z.cells.length = i.size ∧ okV z = true
        · exact mk (some (newBox false false t i.size [z])) rfl rfl (fun H k => by simp only [opD, hti, hz, hcond, and_self, if_true, Option.map_some]; rfl)
        · simp [opD, hti, hz, hcond] at h
  case box t x =>
    cases hti : E.ti t with
    | none => simp [opD, hti] at h
    | some i =>
      by_cases hcond : (ev E s x).cells.length = i.size ∧ okV (ev E s x) = true
      · exact mk (some (newBox false false t i.size [ev E s x])) rfl rfl (fun H k => by simp only [opD, hti, hcond, and_self, if_true, Option.map_some]; rfl)
      · simp [opD, hti, hcond] at h
  case makeSlice t l c =>
    have hlen : ∀ (n : Int) (z : V), (List.replicate n.toNat z).length = n.toNat := fun n z => by simp
    cases hti : E.ti t with
    | none => simp [opD, hti] at h
    | some i =>
      obtain ⟨ty, sz, by', z0⟩ := i
      cases ty with
      | slice e =>
        cases hl : ev E s l with
        | lit lv =>
          cases lv with
          | int k1 n =>
            cases hcv : ev E s c with
            | lit cv =>
              cases cv with
              | int k2 m =>
                cases hei : E.ti e with
                | none => simp [opD, hti, hl, hcv, hei] at h
                | some ei =>
                  cases hz : ei.zero with
                  | none => simp [opD, hti, hl, hcv, hei, hz] at h
                  | some z =>
                    by_cases hcond : 0 ≤ n ∧ n ≤ m ∧ m.toNat * ei.bytes ≤ lim ∧ m ≤ maxLen ∧ 0 < ei.size ∧ z.cells.length = ei.size ∧ okV z = true
                    · refine mk (some (newBox true false e ei.size (List.replicate n.toNat (retype (E.rows e) z)))) rfl rfl (fun H k => ?_)
                      simp only [opD, hti, hl, hcv, hei, hz, Option.map_some]
                      rw [if_pos hcond]
                      simp [newBox]
                    · simp only [opD, hti, hl, hcv, hei, hz] at h
                      rw [if_neg hcond] at h
                      cases h
              | _ => simp [opD, hti, hl, hcv] at h
            | _ => simp [opD, hti, hl, hcv] at h
          | _ => simp [opD, hti, hl] at h
        | _ => simp [opD, hti, hl] at h
      | _ => simp [opD, hti] at h
  case buildSlice t n ps =>
    have he : ∀ H k, opD call E k H s { dst := dst, op := .buildSlice t n ps, type := type, pos := pos, after := after, guard := guard } = buildSliceD E k H t n (ps.toList.map fun (i, x) => (i, ev E s x)) := fun H k => rfl
    have hrefs := fun i => parts_refs (E := E) (s := s) (o := { dst := dst, op := .buildSlice t n ps, type := type, pos := pos, after := after, guard := guard }) rfl (i := i)
    rw [he] at h
    generalize (ps.toList.map fun (i, x) => (i, ev E s x)) = parts at he h hrefs
    unfold buildSliceD at h
    split at h
    · rename_i e sz by' z0 hti
      split at h
      · rename_i ei hei
        split at h
        · rename_i z vs hz hf
          split at h
          · rename_i hcond
            split at h
            · rename_i xs hfe
              simp only [Option.some.injEq, Prod.mk.injEq] at h
              obtain ⟨h1, h2⟩ := h
              refine ⟨(parts.map (fun p : Nat × V => p.2)).flatMap idsA, some (newBox true false e ei.size xs), fun i hi => hrefs i (idsAs_refs hi), fun _ => by simp [clsOf], h2.symm, fun H' k' hk hs => ?_⟩
              have hfr : frzAll H' (parts.map (·.2)) = some vs := by rw [frzAll_sim (fun i hi => hs i (hrefs i hi))]; exact hf
              have hkk : k' = k := hk (by simp [clsOf])
              rw [he, hkk, ← h1]
              simp only [buildSliceD, hti, hei, hz, hfr, hfe]
              rw [if_pos hcond]
              rfl
            · cases h
          · cases h
        · cases h
      · cases h
    · cases h
  case load t x => exact eff_read (y := fun H => loadD E H t (ev E s x)) (fun H k => rfl) h (fun H' hs => loadD_sim (sim_op hs (by simp [Op.operands])))
  case lookup t m x ok => exact eff_read (y := fun H => lookH E H t ok (ev E s m) (ev E s x)) (fun H k => rfl) h (fun H' hs => lookH_sim (sim_op hs (by simp [Op.operands])))
  case indexAddr t x i => exact eff_read (y := fun H => indexAddrD E H t (ev E s x) (ev E s i)) (fun H k => rfl) h (fun H' hs => indexAddrD_sim (sim_op hs (by simp [Op.operands])))
  case convert src dst2 x =>
    have hx : x ∈ (Op.convert src dst2 x).operands := by simp [Op.operands]
    by_cases hb : (E.isStr src && E.isBytes dst2) = true
    · have hca : clsOf E { dst := dst, op := .convert src dst2 x, type := type, pos := pos, after := after, guard := guard } = .a := by simp only [clsOf]; rw [if_pos hb]
      have he : ∀ H k, opD call E k H s { dst := dst, op := .convert src dst2 x, type := type, pos := pos, after := after, guard := guard } = convS E k H dst2 (ev E s x) := fun H k => by simp only [opD]; rw [if_pos hb]
      cases hev : ev E s x with
      | lit v =>
        cases v with
        | string st =>
          cases hti : E.ti dst2 with
          | none => rw [he, hev] at h; simp [convS, hti] at h
          | some i =>
            obtain ⟨ty, sz, by', z0⟩ := i
            cases ty with
            | slice e =>
              by_cases h1 : E.size e = some 1
              · exact mk (some (newBox true false e 1 (bytesV st))) hca rfl (fun H k => by rw [he, hev]; simp only [convS, hti, h1, if_true, Option.map_some]; rw [show (newBox true false e 1 (bytesV st)).xs.length = st.size from by simp only [newBox, bytesV, List.length_map]; exact Array.length_toList]; rfl)
              · rw [he, hev] at h; simp [convS, hti, h1] at h
            | _ => rw [he, hev] at h; simp [convS, hti] at h
        | _ => rw [he, hev] at h; simp [convS] at h
      | _ => rw [he, hev] at h; simp [convS] at h
    have hcv0 : ∀ H k, opD call E k H s { dst := dst, op := .convert src dst2 x, type := type, pos := pos, after := after, guard := guard } = convD E H src dst2 (ev E s x) := fun H k => by simp only [opD]; rw [if_neg hb]
    refine eff_read (y := fun H => (convD E H src dst2 (ev E s x)).map (·.1)) (fun H k => ?_) h (fun H' hs => ?_)
    · rw [hcv0]
      cases hcv : convD E H src dst2 (ev E s x) with
      | none => rfl
      | some r =>
        obtain ⟨r, H2⟩ := r
        have := convD_heap hcv
        subst this
        rfl
    · have h1 := sim_op hs hx
      simp only [convD]
      generalize ev E s x = ex at h1 ⊢
      split
      · grind
      · split <;> rfl
      · rw [eszIs_sim h1, elemsOf_sim h1]
        grind
  case slice t x lo hi mx =>
    have hx : x ∈ (Op.slice t x lo hi mx).operands := by simp [Op.operands]
    by_cases harr : ∃ n e sz by' z0, E.ti t = some ⟨.array n e, sz, by', z0⟩
    · obtain ⟨n, e, sz, by', z0, hti⟩ := harr
      have he : ∀ H k, opD call E k H s { dst := dst, op := .slice t x lo hi mx, type := type, pos := pos, after := after, guard := guard } = sliceA E H n e (ev E s x) (lo.map (ev E s)) (hi.map (ev E s)) (mx.map (ev E s)) := fun H k => by simp only [opD, hti]
      rw [he] at h
      obtain ⟨ids, g1, g2, g3⟩ := sliceA_eff h
      exact ⟨ids, none, fun i hi => List.mem_flatMap.2 ⟨x, by simpa using hx, g1 i hi⟩, by simp, g2, fun H' k' _ hs => by rw [he]; exact g3 H' (sim_op hs hx)⟩
    · have he : ∀ H k, opD call E k H s { dst := dst, op := .slice t x lo hi mx, type := type, pos := pos, after := after, guard := guard } = sliceD E H t (ev E s x) (lo.map (ev E s)) (hi.map (ev E s)) (mx.map (ev E s)) := fun H k => by
        simp only [opD]
        simp_all
      rw [he] at h
      obtain ⟨ids, g1, g2, g3⟩ := sliceD_eff h
      exact ⟨ids, none, fun i hi => List.mem_flatMap.2 ⟨x, by simpa using hx, g1 i hi⟩, by simp, g2, fun H' k' _ hs => by rw [he]; exact g3 H' (sim_op hs hx)⟩
  case call c =>
    cases hcal : c.callee with
    | invoke r n => exact absurd (by simp [clsOf, hcal]) hc
    | builtin b =>
      by_cases hb : b = .len
      · subst hb
        have he : ∀ H k, opD call E k H s { dst := dst, op := .call c, type := type, pos := pos, after := after, guard := guard } = builtinD E k H s .len (evs E s c.args) c.argTypes.toList := fun H k => by simp only [opD, hcal]
        refine eff_read (y := fun H => (builtinD E 0 H s .len (evs E s c.args) c.argTypes.toList).map (·.1)) (fun H k => ?_) h (fun H' hs => ?_)
        · rw [he]
          unfold builtinD
          split <;> try rfl
          · split
            · cases lenOf H _ <;> rfl
            · rfl
          all_goals simp_all
        · have h1 := sim_args rfl hs
          generalize evs E s c.args = xs at h1 ⊢
          simp only [builtinD]
          split <;> try rfl
          · split
            · rw [lenOf_sim (fun i hi => h1 i (by simpa using hi))]
              rename_i x t _ _ _
              cases lenOf H x <;> rfl
            · rfl
          all_goals simp_all
      · exfalso
        revert hc hs
        unfold clsOf
        cases b <;> simp_all
    | value f =>
      cases f with
      | func f =>
        by_cases hp : valF E f = true
        · have he : ∀ H k, opD call E k H s { dst := dst, op := .call c, type := type, pos := pos, after := after, guard := guard } = call f (evs E s c.args) H := fun H k => by simp [opD, hcal, ev]
          rw [he] at h
          obtain ⟨h1, h2⟩ := hpure f hp _ _ _ _ h
          refine ⟨(evs E s c.args).flatMap idsA, none, fun i hi => args_refs rfl (idsAs_refs hi), by simp, h1, fun H' k' _ hs => ?_⟩
          rw [he]
          exact h2 H' (sim_args rfl hs)
        · by_cases hfr : freeF E f = true
          · exact absurd (by unfold clsOf; simp only [hcal]; rw [if_neg hp, if_pos hfr]) hcc
          · exact absurd (by unfold clsOf; simp only [hcal]; rw [if_neg hp, if_neg hfr]) hc
      | tmp t =>
        have hqt : (E.quiet && type != 0) = true := by
          cases hh : (E.quiet && type != 0) with
          | true => rfl
          | false => exact absurd (by simp only [clsOf, hcal, hh]; rfl) hc
        simp only [quietAt, hcal, hqt, Bool.not_true, Bool.false_or] at hq
        cases hv : s.getD t .und with
        | fn g a b =>
          rw [hv] at hq
          simp only [quietV, Bool.and_eq_true] at hq
          have he : ∀ H k, opD call E k H s { dst := dst, op := .call c, type := type, pos := pos, after := after, guard := guard } = call g (a ++ evs E s c.args ++ b) H := fun H k => by
            simp only [opD, hcal, ev, hv]
          rw [he] at h
          obtain ⟨h1, h2⟩ := hpure g hq.1 _ _ _ _ h
          have hin : ∀ i ∈ (a ++ evs E s c.args ++ b).flatMap refsV, i ∈ refsO E s { dst := dst, op := .call c, type := type, pos := pos, after := after, guard := guard } := by
            intro i hi
            obtain ⟨x, hx, hix⟩ := List.mem_flatMap.1 hi
            have hab : x ∈ a ++ b → i ∈ refsO E s { dst := dst, op := .call c, type := type, pos := pos, after := after, guard := guard } := fun hm => by
              have hnf := List.all_eq_true.1 hq.2 x hm
              have hix' : i ∈ refsA x := by cases x <;> first | exact hix | (simp [isFnV] at hnf)
              refine List.mem_flatMap.2 ⟨.tmp t, by simp [Op.operands, Call.operands, hcal], ?_⟩
              show i ∈ refsV (s.getD t .und)
              rw [hv]
              exact List.mem_flatMap.2 ⟨x, hm, hix'⟩
            rcases List.mem_append.1 hx with hx | hx
            · rcases List.mem_append.1 hx with hx | hx
              · simp_all
              · exact args_refs rfl (List.mem_flatMap.2 ⟨x, hx, hix⟩)
            · simp_all
          refine ⟨(a ++ evs E s c.args ++ b).flatMap idsA, none, fun i hi => hin i (idsAs_refs hi), by simp, h1, fun H' k' _ hs => ?_⟩
          rw [he]
          exact h2 H' fun i hi => hs i (hin i hi)
        | _ => rw [hv] at hq; simp [quietV] at hq
      | _ => exact absurd (by simp [clsOf, hcal]) hc
  all_goals (refine absurd ?_ hc; simp [clsOf]; done)

/-- A call that is given no boxes. -/
theorem opD_free {call : CallF} {E : Env} (hfree : FreeOK E call) {k : Nat} {H H1 : Heap} {s : List V} {o : Oper} {v : V} (hc : clsOf E o = .c) (h : opD call E k H s o = some (v, H1)) :
    ∃ ids nbs, (∀ i ∈ ids, i ∈ refsO E s o) ∧ H1 = bump H ids ++ nbs ∧ ∀ H' k', H'.length = H.length → SimAt (refsO E s o) H H' → opD call E k' H' s o = some (v, bump H' ids ++ nbs) := by
  obtain ⟨dst, op, type, pos, after, guard⟩ := o
  cases op <;> simp only [clsOf] at hc <;> first | (cases hc; done) | skip
  case convert => split at hc <;> cases hc
  case assign x => exfalso; revert hc; split <;> simp_all
  case call c =>
    cases hcal : c.callee with
    | builtin b => exfalso; revert hc; simp only [hcal]; cases b <;> simp
    | invoke r n => exfalso; revert hc; simp [hcal]
    | value f =>
    cases f with
    | tmp _ => exfalso; revert hc; simp only [hcal]; split <;> simp
    | const _ => exfalso; revert hc; simp [hcal]
    | global _ => exfalso; revert hc; simp [hcal]
    | func f =>
    simp only [hcal] at hc
    split at hc
    · cases hc
    · split at hc
      · rename_i hfr
        have he : ∀ H k, opD call E k H s { dst := dst, op := .call c, type := type, pos := pos, after := after, guard := guard } = call f (evs E s c.args) H := fun H k => by simp [opD, hcal, ev]
        rw [he] at h
        obtain ⟨ids, nbs, h1, h2, h3⟩ := hfree f hfr _ _ _ _ h
        exact ⟨ids, nbs, fun i hi => args_refs rfl (h1 i hi), h2, fun H' k' hl hs => by rw [he]; exact h3 H' hl (sim_args rfl hs)⟩
      · cases hc

theorem rowC_w {E : Env} {o : Oper} (h : rowC E o = true) : clsOf E o = .w ∧ writesAt o = none := by
  unfold rowC at h
  unfold clsOf writesAt
  split at h
  · rename_i c hop
    split at h
    · rename_i f hc
      simp only [Bool.and_eq_true, Bool.not_eq_true'] at h
      simp only [hop, hc]
      simp [h.1, h.2.1]
    · cases h
  · cases h

/-- A call that is given rows. -/
theorem opD_row {call : CallF} {E : Env} (hrow : RowOK E call) {k : Nat} {H H1 : Heap} {s : List V} {o : Oper} {v : V} (hc : rowC E o = true) (h : opD call E k H s o = some (v, H1)) {n : Nat} {b0 : Box} (h0 : H[n]? = some b0) (hr0 : b0.row = false) :
    H1[n]? = some b0 ∧ ∀ b k', b.row = false → opD call E k' (H.set n b) s o = some (v, H1.set n b) := by
  obtain ⟨dst, op, type, pos, after, guard⟩ := o
  unfold rowC at hc
  split at hc
  · rename_i c hop
    simp only at hop
    subst hop
    split at hc
    · rename_i f hcal
      simp only [Bool.and_eq_true, Bool.not_eq_true'] at hc
      have he : ∀ H k, opD call E k H s { dst := dst, op := .call c, type := type, pos := pos, after := after, guard := guard } = call f (evs E s c.args) H := fun H k => by simp [opD, hcal, ev]
      rw [he] at h
      exact ⟨(hrow f hc.1 hc.2.1 hc.2.2 _ _ _ _ _ _ b0 h h0 hr0 hr0).1, fun b k' hb => by rw [he]; exact (hrow f hc.1 hc.2.1 hc.2.2 _ _ _ _ _ _ b h h0 hr0 hb).2⟩
    · cases hc
  · cases hc

theorem opD_al {call : CallF} {E : Env} {k : Nat} {H H1 : Heap} {s : List V} {o : Oper} {v : V} (hc : isAl o = true) (h : opD call E k H s o = some (v, H1)) :
    ∃ b, b.row = false ∧ H1 = place H k b ∧ ∀ H', opD call E k H' s o = some (v, place H' k b) := by
  obtain ⟨dst, op, type, pos, after, guard⟩ := o
  unfold isAl at hc
  split at hc
  · rename_i t hop
    simp only at hop
    subst hop
    simp only [opD] at h ⊢
    cases ht : E.ti t with
    | none => simp [ht] at h
    | some i =>
      simp only [ht] at h ⊢
      cases hz : i.zero with
      | none => simp [hz] at h
      | some z =>
        simp only [hz] at h ⊢
        split at h
        · rename_i hok
          simp only [Option.some.injEq, Prod.mk.injEq] at h
          obtain ⟨rfl, rfl⟩ := h
          exact ⟨_, rfl, rfl, fun H' => by rw [if_pos hok]⟩
        · cases h
  · cases hc

theorem isAl_a {E : Env} {o : Oper} (h : isAl o = true) : clsOf E o = .a := by
  unfold isAl at h
  split at h
  · rename_i t hop
    unfold clsOf
    rw [hop]
  · cases h

end Go.Proofs.YtpikcdlhgiooaaaGreat.Le

/-
  An evaluator for the model's code over pure values: two operations that no edge orders may change places.
-/
namespace Go.Proofs.YtpikcdlhgiooaaaGreat.Le
set_option linter.unusedVariables false

def bumpB (ids : List Nat) (i : Nat) (b : Box) : Box := if i ∈ ids then { b with floor := b.xs.length } else b

theorem eff_get {ids : List Nat} {nb : Option Box} {k : Nat} {H : Heap} (hk : nb.isSome = true → k < H.length) (i : Nat) :
    (eff ids nb k H)[i]? = match nb with | some b => if i = k then some b else (H[i]?).map (bumpB ids i) | none => (H[i]?).map (bumpB ids i) := by
  cases nb with
  | none => simp only [eff]; rw [bump_get]; rfl
  | some b =>
    have hk' : k < (bump H ids).length := by rw [bump_length]; exact hk rfl
    simp only [eff, place]
    rw [if_pos hk', List.getElem?_set]
    by_cases hi : i = k
    · subst hi; simp [hk']
    · rw [if_neg (fun e => hi e.symm), if_neg hi, bump_get]; rfl

theorem eff_length {ids : List Nat} {nb : Option Box} {k : Nat} {H : Heap} (hk : nb.isSome = true → k < H.length) : (eff ids nb k H).length = H.length := by
  cases nb with
  | none => exact bump_length H ids
  | some b =>
    have hk' : k < (bump H ids).length := by rw [bump_length]; exact hk rfl
    simp only [eff, place]
    rw [if_pos hk', List.length_set, bump_length]

theorem bumpB_comm (ids1 ids2 : List Nat) (i : Nat) (b : Box) : bumpB ids1 i (bumpB ids2 i b) = bumpB ids2 i (bumpB ids1 i b) := by
  unfold bumpB
  grind

theorem eff_comm {ids1 ids2 : List Nat} {nb1 nb2 : Option Box} {k1 k2 : Nat} {H : Heap} (h1 : nb1.isSome = true → k1 < H.length ∧ k1 ∉ ids2) (h2 : nb2.isSome = true → k2 < H.length ∧ k2 ∉ ids1)
    (hne : nb1.isSome = true → nb2.isSome = true → k1 ≠ k2) : eff ids1 nb1 k1 (eff ids2 nb2 k2 H) = eff ids2 nb2 k2 (eff ids1 nb1 k1 H) := by
  have l1 := eff_length (ids := ids1) (fun h => (h1 h).1)
  have l2 := eff_length (ids := ids2) (fun h => (h2 h).1)
  apply List.ext_getElem?
  intro i
  rw [eff_get (ids := ids1) (H := eff ids2 nb2 k2 H) (fun h => by rw [l2]; exact (h1 h).1), eff_get (ids := ids2) (H := eff ids1 nb1 k1 H) (fun h => by rw [l1]; exact (h2 h).1), eff_get (ids := ids1) (H := H) (fun h => (h1 h).1), eff_get (ids := ids2) (H := H) (fun h => (h2 h).1)]
  cases nb1 with
  | none =>
    cases nb2 with
    | none =>
      simp only
      cases H[i]? with
      | none => rfl
      | some b => simp only [Option.map_some, bumpB_comm]
    | some b2 =>
      simp only
      by_cases hi : i = k2
      · subst hi
        simp only [if_true, Option.map_some]
        simp [bumpB, (h2 rfl).2]
      · simp only [hi, if_false]
        cases H[i]? with
        | none => rfl
        | some b => simp only [Option.map_some, bumpB_comm]
  | some b1 =>
    cases nb2 with
    | none =>
      simp only
      by_cases hi : i = k1
      · subst hi
        simp only [if_true, Option.map_some]
        simp [bumpB, (h1 rfl).2]
      · simp only [hi, if_false]
        cases H[i]? with
        | none => rfl
        | some b => simp only [Option.map_some, bumpB_comm]
    | some b2 =>
      have hkk := hne rfl rfl
      simp only
      by_cases hi : i = k1
      · subst hi
        rw [if_pos rfl, if_neg hkk, if_pos rfl]
        simp [bumpB, (h1 rfl).2]
      · by_cases hj : i = k2
        · subst hj
          rw [if_neg hi, if_pos rfl, if_pos rfl]
          simp [bumpB, (h2 rfl).2]
        · rw [if_neg hi, if_neg hj, if_neg hj, if_neg hi]
          cases H[i]? with
          | none => rfl
          | some b => simp only [Option.map_some, bumpB_comm]

theorem bumpB_low (ids : List Nat) (i : Nat) (b : Box) : (bumpB ids i b).low = b.low := by
  unfold bumpB
  split <;> rfl

theorem eff_sim {R ids : List Nat} {nb : Option Box} {k : Nat} {H : Heap} (hk : nb.isSome = true → k < H.length ∧ k ∉ R) : SimAt R H (eff ids nb k H) := by
  intro i hi
  rw [eff_get (fun h => (hk h).1)]
  cases nb with
  | none =>
    simp only
    cases H[i]? with
    | none => rfl
    | some b => simp only [Option.map_some, bumpB_low]
  | some b =>
    have : i ≠ k := fun e => (hk rfl).2 (e ▸ hi)
    simp only [this, if_false]
    cases H[i]? with
    | none => rfl
    | some b => simp only [Option.map_some, bumpB_low]

theorem SimAt.symm {R : List Nat} {H H' : Heap} (h : SimAt R H H') : SimAt R H' H := fun i hi => (h i hi).symm

theorem eff_dead {ids : List Nat} {nb : Option Box} {k j : Nat} {H : Heap} (hk : nb.isSome = true → k < H.length ∧ k ≠ j) : (∃ b, (eff ids nb k H)[j]? = some b ∧ (b.live = false ∧ b.row = false)) ↔ ∃ b, H[j]? = some b ∧ (b.live = false ∧ b.row = false) := by
  rw [eff_get (fun h => (hk h).1)]
  have hm : (∃ b, (H[j]?).map (bumpB ids j) = some b ∧ (b.live = false ∧ b.row = false)) ↔ ∃ b, H[j]? = some b ∧ (b.live = false ∧ b.row = false) := by
    cases H[j]? with
    | none => simp
    | some b =>
      simp only [Option.map_some, Option.some.injEq, exists_eq_left']
      unfold bumpB
      split <;> rfl
  grind

section
variable {call : CallF} {E : Env} {ops : Array Oper} {ms : List Nat} {lt : List (Nat × (Nat ⊕ Nat))} {s0 : List V} {base m : Nat}

def kOf (E : Env) (o : Oper) (base i : Nat) (H : Heap) : Nat := if clsOf E o = .a then base + i else H.length

def seesOK (E : Env) (ops : Array Oper) (ms : List Nat) (lt : List (Nat × (Nat ⊕ Nat))) (s0 : List V) (base m i : Nat) (s : List V) (o : Oper) : Prop := (∀ id ∈ refsO E s o, id < base ∨ (base + m ≤ id ∧ freeAt E ops ms i = true) ∨ (id < base + m ∧ (ms.getD i 0).testBit (id - base) = true)) ∧ quietAt E s o = true ∧ appLd E ops ms lt s0 base i s o = true

def capOK (E : Env) (ops : Array Oper) (base m : Nat) (o : Oper) (H : Heap) : Prop := capC E o = true → base + m ≤ H.length ∧ (rowC E o = true → alOK ops base H = true)

theorem stepR_iff {i : Nat} {o : Oper} (ho : ops[i]? = some o) {st st' : St} : stepR call E ops ms lt s0 base m i st = some st' ↔
    seesOK E ops ms lt s0 base m i st.s o ∧ (lateD E ms lt s0 base i st.s st.H o = true ∧ capOK E ops base m o st.H) ∧ (clsOf E o = .a → ∃ b, st.H[base + i]? = some b ∧ (b.live = false ∧ b.row = false)) ∧ ∃ v H', actD call E ops (kOf E o base i st.H) o st = some (v, H') ∧ st' = ⟨setSlot st.s o.dst v, H'⟩ := by
  have hst : ∀ k, stepAt call E ops k i st = some st' ↔ ∃ v H', actD call E ops k o st = some (v, H') ∧ st' = ⟨setSlot st.s o.dst v, H'⟩ := by
    intro k
    unfold stepAt
    simp only [ho]
    cases hact : actD call E ops k o st with
    | none => simp
    | some r =>
      grind
  unfold stepR
  simp only [ho]
  have hsee : (((refsO E st.s o).all fun id => decide (id < base) || (decide (base + m ≤ id) && freeAt E ops ms i) || (decide (id < base + m) && (ms.getD i 0).testBit (id - base))) && (quietAt E st.s o && appLd E ops ms lt s0 base i st.s o) && (lateD E ms lt s0 base i st.s st.H o && (!capC E o || (decide (base + m ≤ st.H.length) && (!rowC E o || alOK ops base st.H))))) = true ↔
      seesOK E ops ms lt s0 base m i st.s o ∧ lateD E ms lt s0 base i st.s st.H o = true ∧ capOK E ops base m o st.H := by
    unfold seesOK
    rw [Bool.and_eq_true, Bool.and_eq_true, Bool.and_eq_true, Bool.and_eq_true, List.all_eq_true]
    have hc : (!capC E o || (decide (base + m ≤ st.H.length) && (!rowC E o || alOK ops base st.H))) = true ↔ capOK E ops base m o st.H := by
      unfold capOK; cases h : capC E o <;> cases h2 : rowC E o <;> simp
    rw [hc]
    simp only [Bool.or_eq_true, Bool.and_eq_true, decide_eq_true_eq, or_assoc]
  by_cases hs : seesOK E ops ms lt s0 base m i st.s o ∧ lateD E ms lt s0 base i st.s st.H o = true ∧ capOK E ops base m o st.H
  · rw [if_pos (hsee.2 hs)]
    unfold kOf
    grind
  grind

theorem writesAt_op {o : Oper} {a : Operand} (h : writesAt o = some a) : (∃ t v, o.op = .store t a v) ∨ ∃ c x, o.op = .call c ∧ c.callee = .builtin .append ∧ c.args.toList = [a, x] := by
  unfold writesAt at h
  grind

theorem writesAt_mem {o : Oper} {a : Operand} (h : writesAt o = some a) : a ∈ o.op.operands := by
  rcases writesAt_op h with ⟨t, v, hop⟩ | ⟨c, x, hop, h1, h2⟩
  · simp [hop, Op.operands]
  · have : a ∈ c.args := by
      have : a ∈ c.args.toList := by rw [h2]; simp
      simpa using this
    simp [hop, Op.operands, Call.operands, this]

theorem tgtOf_w {o : Oper} {t : Nat ⊕ Nat} (h : tgtOf E ops o = some t) : clsOf E o = .w ∧ o.guard = none ∧ ∃ d, writesAt o = some (.tmp d) := by
  unfold tgtOf at h
  split at h
  · rename_i d hg hw
    refine ⟨?_, hg, ⟨d, hw⟩⟩
    rcases writesAt_op hw with ⟨t, v, hop⟩ | ⟨c, x, hop, h1, h2⟩
    · unfold clsOf; rw [hop]
    · unfold clsOf; rw [hop]; simp only [h1]
  · cases h

theorem lates_tgt {x : Nat} {t : Nat ⊕ Nat} (h : (x, t) ∈ lates E ops) : ∃ ox, ops[x]? = some ox ∧ tgtOf E ops ox = some t := by
  unfold lates at h
  grind

theorem needs_w {o : Oper} (h : needs E o = true) : clsOf E o ≠ .w := by
  unfold needs at h
  grind

theorem addrOf_set {s : List V} {o : Oper} {d : Option Tmp} {v : V} (h : ∀ d', d = some d' → d' ∉ o.looksAt ops) : addrOf E (setSlot s d v) o = addrOf E s o := by
  unfold addrOf
  split
  · rename_i a hw
    exact ev_set _ fun d' hd => looks_op (h d' hd) a (writesAt_mem hw)
  · rfl

theorem lateD_set {s : List V} {H : Heap} {i : Nat} {o : Oper} {d : Option Tmp} {v : V} (h : ∀ d', d = some d' → d' ∉ o.looksAt ops) : lateD E ms lt s0 base i (setSlot s d v) H o = lateD E ms lt s0 base i s H o := by
  unfold lateD
  rw [addrOf_set h, refsO_set h]

/-- What is not a store of that kind does not ask for the boxes. -/
theorem lateD_heap {s : List V} {H H' : Heap} {i : Nat} {o : Oper} (h : ∀ t, (i, t) ∉ lt) (hl : lateD E ms lt s0 base i s H o = true) : lateD E ms lt s0 base i s H' o = true := by
  unfold lateD at *
  rw [List.all_eq_true] at *
  grind

theorem lateD_same {s : List V} {H H' : Heap} {i : Nat} {o : Oper} (h : ∀ p ∈ lt, ∀ k, p.1 = i → tgtNo base s0 p.2 = some k → H'[k]? = H[k]?) (hl : lateD E ms lt s0 base i s H o = true) : lateD E ms lt s0 base i s H' o = true := by
  unfold lateD at *
  rw [List.all_eq_true] at *
  intro p hp
  have hh := hl p hp
  cases ht : tgtNo base s0 p.2 with
  | none => rw [ht] at hh; cases hh
  | some k =>
    rw [ht] at hh
    simp only at hh ⊢
    split
    · rename_i he
      rw [if_pos he] at hh
      have hk := h p hp k he ht
      unfold lateAt at *
      split at hh
      · rename_i id a b tot haddr
        simp only [Bool.and_eq_true, beq_iff_eq] at hh ⊢
        obtain ⟨rfl, hh⟩ := hh
        refine ⟨rfl, ?_⟩
        unfold boxAt at *
        simp_all
      · grind
      · cases hh
    simp_all

theorem lateAt_same {H H' : Heap} {a : V} {k : Nat} (h : H'[k]? = H[k]?) (hl : lateAt H a k = true) : lateAt H' a k = true := by
  unfold lateAt at *
  split at hl
  · rename_i id i off tot
    simp only [Bool.and_eq_true, beq_iff_eq] at hl ⊢
    obtain ⟨rfl, hl⟩ := hl
    refine ⟨rfl, ?_⟩
    unfold boxAt at *
    rw [h]
    exact hl
  · grind
  · cases hl

theorem store_late {H H1 : Heap} {t : TypeId} {a v : V} {k : Nat} (hl : lateAt H a k = true) (h : storeD E H t a v = some H1) :
    ∃ b, k < H.length ∧ H1 = H.set k b ∧ ∀ H', H'[k]? = H[k]? → storeD E H' t a v = some (H'.set k b) := by
  unfold lateAt at hl
  split at hl
  · rename_i id i off tot
    simp only [Bool.and_eq_true, beq_iff_eq] at hl
    obtain ⟨rfl, hl⟩ := hl
    cases hb : boxAt H id tot with
    | none => rw [hb] at hl; cases hl
    | some b =>
      rw [hb] at hl
      simp only [Bool.not_eq_true'] at hl
      have hlt : id < H.length := by
        unfold boxAt at hb
        cases hh : H[id]? with
        | none => rw [hh] at hb; cases hb
        | some b0 => grind
      have hb' : ∀ H' : Heap, H'[id]? = H[id]? → boxAt H' id tot = some b := fun H' he => by
        unfold boxAt at *
        grind
      unfold storeD at h
      cases hti : E.ti t with
      | none => simp_all
      | some ii =>
        simp only [hti, hb] at h
        cases hx : b.xs[i]? with
        | none => simp_all
        | some x =>
          simp only [hx, hl, Bool.false_eq_true, if_false] at h
          split at h
          · rename_i hc
            cases hs : spliceV x off v.cells with
            | none => simp_all
            | some x' =>
              simp only [hs] at h
              split at h
              · rename_i ho
                simp only [Option.some.injEq] at h
                refine ⟨_, hlt, h.symm, fun H' he => ?_⟩
                unfold storeD
                simp_all
              · cases h
          · cases h
  · unfold storeD at h
    split at h <;> cases h
  · cases hl

theorem append_late {H H1 : Heap} {k0 : Nat} {t u : TypeId} {a x r : V} {k : Nat} (hl : lateAt H a k = true) (h : appendD E k0 H t u a x = some (r, H1)) :
    ∃ b, k < H.length ∧ H1 = H.set k b ∧ ∀ k' H', H'[k]? = H[k]? → SimAt (refsV x) H H' → appendD E k' H' t u a x = some (r, H'.set k b) := by
  unfold lateAt at hl
  split at hl
  · unfold appendD at h
    grind
  · rename_i id off len tot
    simp only [Bool.and_eq_true, beq_iff_eq] at hl
    obtain ⟨rfl, hl⟩ := hl
    have hlt : id < H.length := by
      cases hh : H[id]? with
      | none => rw [hh] at hl; cases hl
      | some b0 => exact (List.getElem?_eq_some_iff.1 hh).1
    unfold appendD at h
    split at h
    · rename_i e sz by' z0 hti
      split at h
      · rename_i ei ys hei hut hys
        split at h
        · rename_i hcond
          simp only at h
          cases hb : boxAt H id tot with
          | none => rw [hb] at h; cases h
          | some b =>
            simp only [hb] at h
            split at h
            · rename_i hc
              split at h
              · rename_i hlim
                simp only [Option.some.injEq, Prod.mk.injEq] at h
                obtain ⟨rfl, rfl⟩ := h
                refine ⟨_, hlt, rfl, fun k' H' he hs => ?_⟩
                have hb' : boxAt H' id tot = some b := by
                  unfold boxAt at *
                  rw [he]
                  exact hb
                unfold appendD
                simp only [hti, hei, hut, elemsOf_sim hs, hys, eszIs_sim hs]
                simp_all
              · cases h
            · rename_i hc0
              split at h
              · rename_i hc
                simp only [Option.some.injEq, Prod.mk.injEq] at h
                obtain ⟨rfl, rfl⟩ := h
                refine ⟨_, hlt, rfl, fun k' H' he hs => ?_⟩
                have hb' : boxAt H' id tot = some b := by
                  unfold boxAt at *
                  rw [he]
                  exact hb
                unfold appendD
                simp only [hti, hei, hut, elemsOf_sim hs, hys, eszIs_sim hs]
                simp_all
              · cases h
        · cases h
      · cases h
    · cases h
  · cases hl

theorem eff_set {ids : List Nat} {nb : Option Box} {k k' : Nat} {H : Heap} {b : Box} (hk : nb.isSome = true → k' < H.length ∧ k' ≠ k) (hid : k ∉ ids) : eff ids nb k' (H.set k b) = (eff ids nb k' H).set k b := by
  apply List.ext_getElem?
  intro i
  rw [eff_get (H := H.set k b) (fun h => by simp_all), List.getElem?_set, List.getElem?_set, eff_length (fun h => (hk h).1), eff_get (fun h => (hk h).1)]
  by_cases hki : k = i
  · subst hki
    simp only [if_true]
    cases nb with
    | none =>
      simp only
      split
      · simp [bumpB, hid]
      · rfl
    | some b2 =>
      have : ¬ k = k' := fun e => (hk rfl).2 e.symm
      simp only [this, if_false]
      split
      · simp [bumpB, hid]
      · rfl
  grind

theorem eff_at {ids : List Nat} {nb : Option Box} {k k' : Nat} {H : Heap} (hk : nb.isSome = true → k' < H.length ∧ k' ≠ k) (hid : k ∉ ids) : (eff ids nb k' H)[k]? = H[k]? := by
  rw [eff_get (fun h => (hk h).1)]
  cases nb with
  | none =>
    simp only
    cases H[k]? with
    | none => rfl
    | some b => simp [bumpB, hid]
  | some b2 =>
    have : ¬ k = k' := fun e => (hk rfl).2 e.symm
    simp only [this, if_false]
    cases H[k]? with
    | none => rfl
    | some b => simp [bumpB, hid]

/-- What such a store, or append, does. -/
theorem actD_late {k i : Nat} {t : Nat ⊕ Nat} {o : Oper} {s : List V} {H H1 : Heap} {v : V} (ht : tgtOf E ops o = some t) (hin : (i, t) ∈ lt) (hl : lateD E ms lt s0 base i s H o = true) (h : actD call E ops k o ⟨s, H⟩ = some (v, H1)) :
    ∃ b n, tgtNo base s0 t = some n ∧ n ∈ refsO E s o ∧ n < H.length ∧ H1 = H.set n b ∧ ∀ k' H', H'[n]? = H[n]? → SimAt (refsO E s o) H H' → actD call E ops k' o ⟨s, H'⟩ = some (v, H'.set n b) := by
  obtain ⟨_, hg, ⟨d, hw⟩⟩ := tgtOf_w ht
  unfold lateD at hl
  rw [List.all_eq_true] at hl
  have hl := hl _ hin
  cases hn : tgtNo base s0 t with
  | none => simp_all
  | some n =>
    simp only [hn, if_true] at hl
    unfold addrOf at hl
    simp only [hw] at hl
    have haddr : n ∈ refsO E s o := by
      unfold refsO
      rw [List.mem_flatMap]
      refine ⟨.tmp d, by simpa using writesAt_mem hw, ?_⟩
      unfold lateAt at hl
      split at hl
      · rename_i he
        simp only [Bool.and_eq_true, beq_iff_eq] at hl
        rw [he, ← hl.1]
        simp [refsV, ref1]
      · rename_i he
        simp only [Bool.and_eq_true, beq_iff_eq] at hl
        rw [he, ← hl.1]
        simp [refsV, ref1]
      · cases hl
    unfold actD at h ⊢
    simp only [hg] at h ⊢
    rcases writesAt_op hw with ⟨t', x, hop⟩ | ⟨c, x, hop, hc1, hc2⟩
    · unfold opD at h ⊢
      simp only [hop] at h ⊢
      cases hst : storeD E H t' (ev E s (.tmp d)) (ev E s x) with
      | none => rw [hst] at h; cases h
      | some H2 =>
        rw [hst] at h
        simp only [Option.map_some, Option.some.injEq, Prod.mk.injEq] at h
        obtain ⟨rfl, rfl⟩ := h
        obtain ⟨b, h1, h2, h3⟩ := store_late hl hst
        grind
    · have hargs : evs E s c.args = [ev E s (.tmp d), ev E s x] := by unfold evs; rw [hc2]; rfl
      unfold opD at h ⊢
      simp only [hop, hc1, hargs] at h ⊢
      unfold builtinD at h ⊢
      split at h
      · rename_i h1 _; cases h1
      · rename_i a y t' u' hb he1 he2
        simp only [List.cons.injEq, and_true] at he1
        obtain ⟨rfl, rfl⟩ := he1
        obtain ⟨b, h1, h2, h3⟩ := append_late hl h
        refine ⟨b, n, rfl, haddr, h1, h2, fun k' H' he hs => h3 k' H' he (fun id hid => hs id ?_)⟩
        unfold refsO
        rw [List.mem_flatMap]
        have : x ∈ c.args := by
          have : x ∈ c.args.toList := by rw [hc2]; simp
          simpa using this
        exact ⟨x, by simp [hop, Op.operands, Call.operands, this], hid⟩
      · simp_all
      · simp_all
      · simp_all
      · rename_i h1; cases h1
      · rename_i h1; cases h1
      · cases h

theorem late_refs {i x n : Nat} {t : Nat ⊕ Nat} {o : Oper} {s : List V} {H : Heap} (hin : (x, t) ∈ lt) (hne : x ≠ i) (hn : needs E o = true) (hbit : (ms.getD i 0).testBit x = false) (hbit' : (ms.getD x 0).testBit i = false) (ht : tgtNo base s0 t = some n)
    (hl : lateD E ms lt s0 base i s H o = true) : n ∉ refsO E s o := by
  unfold lateD at hl
  rw [List.all_eq_true] at hl
  have hl := hl _ hin
  simp only [ht, if_neg hne, hn, linked, hbit, hbit', Bool.or_self, Bool.not_true, Bool.false_or, Bool.not_eq_true'] at hl
  simpa using hl

theorem actD_s {k : Nat} {o : Oper} {s : List V} {H H1 : Heap} {v : V} (hc : clsOf E o = .s) (h : actD call E ops k o ⟨s, H⟩ = some (v, H1)) : H1 = H ∧ ∀ H' k', actD call E ops k' o ⟨s, H'⟩ = some (v, H') := by
  unfold actD at *
  cases hg : o.guard with
  | none => simp only [hg] at h ⊢; exact opD_s hc h
  | some jw =>
    obtain ⟨j, want⟩ := jw
    simp only [hg] at h ⊢
    cases hd : (ops[j]?).bind (·.dst) with
    | none => simp [hd] at h
    | some d =>
      simp only [hd] at h ⊢
      cases hgd : guardD (s.getD d .und) want with
      | none => rw [hgd] at h; cases h
      | some r =>
        rw [hgd] at h
        cases r with
        | true => simp only at h ⊢; exact opD_s hc h
        | false =>
          simp_all

theorem actD_eff (hpure : PureOK E call) {k : Nat} {o : Oper} {s : List V} {H H1 : Heap} {v : V} (hc : clsOf E o ≠ .w) (hcc : clsOf E o ≠ .c) (hq : quietAt E s o = true) (h : actD call E ops k o ⟨s, H⟩ = some (v, H1)) :
    ∃ ids nb, (∀ i ∈ ids, i ∈ refsO E s o) ∧ (nb.isSome = true → clsOf E o = .a) ∧ H1 = eff ids nb k H ∧
      ∀ H' k', (clsOf E o = .a → k' = k) → SimAt (refsO E s o) H H' → actD call E ops k' o ⟨s, H'⟩ = some (v, eff ids nb k' H') := by
  unfold actD at *
  cases hg : o.guard with
  | none => simp only [hg] at h ⊢; exact opD_eff hpure hc hcc hq h
  | some jw =>
    obtain ⟨j, want⟩ := jw
    simp only [hg] at h ⊢
    cases hd : (ops[j]?).bind (·.dst) with
    | none => simp [hd] at h
    | some d =>
      simp only [hd] at h ⊢
      cases hgd : guardD (s.getD d .und) want with
      | none => rw [hgd] at h; cases h
      | some r =>
        rw [hgd] at h
        cases r with
        | true => simp only at h ⊢; exact opD_eff hpure hc hcc hq h
        | false =>
          simp only [Option.some.injEq, Prod.mk.injEq] at h ⊢
          exact ⟨[], none, by simp, by simp, h.2.symm, fun H' k' _ _ => ⟨h.1, rfl⟩⟩

theorem actD_free (hfree : FreeOK E call) {k : Nat} {o : Oper} {s : List V} {H H1 : Heap} {v : V} (hc : clsOf E o = .c) (h : actD call E ops k o ⟨s, H⟩ = some (v, H1)) :
    ∃ ids nbs, (∀ i ∈ ids, i ∈ refsO E s o) ∧ H1 = bump H ids ++ nbs ∧ ∀ H' k', H'.length = H.length → SimAt (refsO E s o) H H' → actD call E ops k' o ⟨s, H'⟩ = some (v, bump H' ids ++ nbs) := by
  unfold actD at *
  cases hg : o.guard with
  | none => simp only [hg] at h ⊢; exact opD_free hfree hc h
  | some jw =>
    obtain ⟨j, want⟩ := jw
    simp only [hg] at h ⊢
    cases hd : (ops[j]?).bind (·.dst) with
    | none => simp [hd] at h
    | some d =>
      simp only [hd] at h ⊢
      cases hgd : guardD (s.getD d .und) want with
      | none => rw [hgd] at h; cases h
      | some r =>
        rw [hgd] at h
        cases r with
        | true => simp only at h ⊢; exact opD_free hfree hc h
        | false =>
          simp only [Option.some.injEq, Prod.mk.injEq] at h ⊢
          exact ⟨[], [], by simp, by rw [List.append_nil]; exact h.2.symm, fun H' k' _ _ => ⟨h.1, by rw [List.append_nil]; rfl⟩⟩

theorem bump_append {ids : List Nat} {H : Heap} (ys : List Box) (h : ∀ i ∈ ids, i < H.length) : bump (H ++ ys) ids = bump H ids ++ ys := by
  apply List.ext_getElem?
  intro i
  rw [bump_get, List.getElem?_append, List.getElem?_append, bump_length, bump_get]
  grind

theorem eff_append {ids : List Nat} {nb : Option Box} {k : Nat} {H : Heap} (ys : List Box) (h : ∀ i ∈ ids, i < H.length) (hk : nb.isSome = true → k < H.length) : eff ids nb k (H ++ ys) = eff ids nb k H ++ ys := by
  cases nb with
  | none => exact bump_append ys h
  | some b =>
    have hk := hk rfl
    simp only [eff, place, bump_append ys h, List.length_append, bump_length]
    rw [if_pos (by omega), if_pos hk, List.set_append_left _ _ (by rw [bump_length]; exact hk)]

theorem sim_append {R : List Nat} {H H' : Heap} (ys : List Box) (h : SimAt R H H') (hR : ∀ i ∈ R, i < H'.length) : SimAt R H (H' ++ ys) := by
  intro i hi
  rw [List.getElem?_append_left (hR i hi)]
  exact h i hi

theorem sim_bump (R ids : List Nat) (H : Heap) : SimAt R H (bump H ids) := by
  have := eff_sim (R := R) (ids := ids) (nb := none) (k := 0) (H := H) (fun h => by cases h)
  exact this

theorem sim_set {R : List Nat} {H : Heap} {n : Nat} {b : Box} (h : n ∉ R) : SimAt R H (H.set n b) := by
  intro i hi
  grind

theorem SimAt.trans {R : List Nat} {H H' H2 : Heap} (h : SimAt R H H') (k : SimAt R H' H2) : SimAt R H H2 := fun i hi => (h i hi).trans (k i hi)

theorem setSlot_comm {s : List V} {d e : Option Tmp} {v u : V} (h : ∀ x, d = some x → e ≠ some x) : setSlot (setSlot s d v) e u = setSlot (setSlot s e u) d v := by
  cases d with
  | none => rfl
  | some d =>
    cases e with
    | none => rfl
    | some e =>
      have : d ≠ e := fun hh => h d rfl (by rw [hh])
      simp only [setSlot]
      exact List.set_comm v u this

theorem capC_c {o : Oper} (h : clsOf E o = .c) : capC E o = true := by simp [capC, h]
theorem capC_row {o : Oper} (h : rowC E o = true) : capC E o = true := by simp [capC, h]
theorem capC_not {o : Oper} (h : capC E o = true) (hc : clsOf E o ≠ .c) : rowC E o = true := by simpa [capC, hc] using h
theorem capC_no {o : Oper} (hc : clsOf E o ≠ .c) (hw : clsOf E o ≠ .w) : capC E o = false := by
  cases h : capC E o with
  | false => rfl
  | true => exact absurd (rowC_w (capC_not h hc)).1 hw

theorem actD_row (hrow : RowOK E call) {k : Nat} {o : Oper} {s : List V} {H H1 : Heap} {v : V} (hc : rowC E o = true) (h : actD call E ops k o ⟨s, H⟩ = some (v, H1)) {n : Nat} {b0 : Box} (h0 : H[n]? = some b0) (hr0 : b0.row = false) :
    H1[n]? = some b0 ∧ ∀ b k', b.row = false → actD call E ops k' o ⟨s, H.set n b⟩ = some (v, H1.set n b) := by
  unfold actD at *
  cases hg : o.guard with
  | none => simp only [hg] at h ⊢; exact opD_row hrow hc h h0 hr0
  | some jw =>
    obtain ⟨j, want⟩ := jw
    simp only [hg] at h ⊢
    cases hd : (ops[j]?).bind (·.dst) with
    | none => simp [hd] at h
    | some d =>
      simp only [hd] at h ⊢
      cases hgd : guardD (s.getD d .und) want with
      | none => rw [hgd] at h; cases h
      | some r =>
        rw [hgd] at h
        cases r with
        | true => simp only at h ⊢; exact opD_row hrow hc h h0 hr0
        | false =>
          simp only [Option.some.injEq, Prod.mk.injEq] at h ⊢
          obtain ⟨rfl, rfl⟩ := h
          exact ⟨h0, fun b k' _ => ⟨rfl, rfl⟩⟩

theorem actD_al {k : Nat} {o : Oper} {s : List V} {H H1 : Heap} {v : V} (hc : isAl o = true) (h : actD call E ops k o ⟨s, H⟩ = some (v, H1)) :
    (∃ b, b.row = false ∧ H1 = place H k b ∧ ∀ H', actD call E ops k o ⟨s, H'⟩ = some (v, place H' k b)) ∨ (H1 = H ∧ ∀ H', actD call E ops k o ⟨s, H'⟩ = some (v, H')) := by
  unfold actD at *
  cases hg : o.guard with
  | none => simp only [hg] at h ⊢; exact .inl (opD_al hc h)
  | some jw =>
    obtain ⟨j, want⟩ := jw
    simp only [hg] at h ⊢
    cases hd : (ops[j]?).bind (·.dst) with
    | none => simp [hd] at h
    | some d =>
      simp only [hd] at h ⊢
      cases hgd : guardD (s.getD d .und) want with
      | none => rw [hgd] at h; cases h
      | some r =>
        rw [hgd] at h
        cases r with
        | true => simp only at h ⊢; exact .inl (opD_al hc h)
        | false =>
          simp only [Option.some.injEq, Prod.mk.injEq] at h ⊢
          exact .inr ⟨h.2.symm, fun H' => ⟨h.1, trivial⟩⟩

theorem row_c {o : Oper} (h : rowC E o = true) (hc : clsOf E o = .c) : False := by
  have := (rowC_w h).1
  rw [hc] at this
  cases this
theorem capOK_no {o : Oper} {H : Heap} (hc : clsOf E o ≠ .c) (hw : clsOf E o ≠ .w) : capOK E ops base m o H := fun h => by
  rw [capC_no hc hw] at h
  cases h
theorem capC_tgt {o : Oper} {t : Nat ⊕ Nat} (ht : tgtOf E ops o = some t) (h : capC E o = true) : False := by
  obtain ⟨h1, _, d, hd⟩ := tgtOf_w ht
  have := (rowC_w (capC_not h (by rw [h1]; simp))).2
  rw [hd] at this
  cases this
theorem alOK_at {H : Heap} {y : Nat} {oy : Oper} (hy : ops[y]? = some oy) (ha : isAl oy = true) (h : alOK ops base H = true) : ∃ b, H[base + y]? = some b ∧ b.row = false := by
  unfold alOK at h
  rw [List.all_eq_true] at h
  have h := h y (by simpa using (Array.getElem?_eq_some_iff.1 hy).1)
  simp only [hy, ha, Bool.not_true, Bool.false_or] at h
  cases hb : H[base + y]? with
  | none => rw [hb] at h; cases h
  | some b => rw [hb] at h; exact ⟨b, rfl, by simpa using h⟩
theorem alOK_set {H : Heap} {n : Nat} {b : Box} (hr : b.row = false) (h : alOK ops base H = true) : alOK ops base (H.set n b) = true := by
  unfold alOK at *
  rw [List.all_eq_true] at h ⊢
  intro j hj
  have h := h j hj
  cases ho : ops[j]? with
  | none => rfl
  | some o =>
    rw [ho] at h
    simp only [Bool.or_eq_true, Bool.not_eq_true'] at h ⊢
    rcases h with h | h
    · exact .inl h
    · refine .inr ?_
      cases hb : H[base + j]? with
      | none => rw [hb] at h; cases h
      | some c =>
        rw [hb] at h
        have hlt := (List.getElem?_eq_some_iff.1 hb).1
        by_cases e : n = base + j
        · subst e
          rw [List.getElem?_set_self hlt]
          simp [hr]
        · rw [List.getElem?_set_ne e, hb]
          exact h

theorem isLd_n {o : Oper} (h : isLd o = true) : clsOf E o = .n := by
  unfold isLd at h
  split at h
  · rename_i t a hop
    unfold clsOf
    rw [hop]
  · cases h
theorem isLd_needs {o : Oper} (h : isLd o = true) : needs E o = true := by
  unfold needs
  rw [isLd_n h]
theorem isApp_w {o : Oper} (h : isApp o = true) : clsOf E o = .w := by
  unfold isApp at h
  split at h
  · rename_i c hop
    split at h
    · rename_i hc
      unfold clsOf
      simp only [hop, hc]
    · cases h
  · cases h
theorem apart_symm {x y : Oper} (h : x.apart ops y = true) : y.apart ops x = true := by
  unfold Oper.apart at *
  grind
theorem appLd_set {s : List V} {i : Nat} {o : Oper} {d : Option Tmp} {v : V} (h : ∀ d', d = some d' → d' ∉ o.looksAt ops) : appLd E ops ms lt s0 base i (setSlot s d v) o = appLd E ops ms lt s0 base i s o := by
  unfold appLd
  rw [addrOf_set h, refsO_set h]
theorem appLd_app {i j : Nat} {s : List V} {o oj : Oper} (hj : ops[j]? = some oj) (ha : isApp o = true) (hl : isLd oj = true) (hlt : lt.any (fun p => p.1 == i) = false) (hk : linked ms i j = false) (h : appLd E ops ms lt s0 base i s o = true) :
    ∃ n, ldNo E ops base s0 oj = some n ∧ ((∃ id, (∃ a b c, addrOf E s o = .lsl id a b c) ∧ n ≠ id) ∨ (∃ b e xs, addrOf E s o = .sl b e xs) ∧ n < base) := by
  unfold appLd at h
  rw [List.all_eq_true] at h
  have h := h j (by simpa using (Array.getElem?_eq_some_iff.1 hj).1)
  simp only [hj, ha, hl, hlt, hk, Bool.and_self, Bool.not_true, Bool.false_or, Bool.and_eq_true] at h
  obtain ⟨h, _⟩ := h
  split at h
  · rename_i n id a b c hn hq
    exact ⟨n, hn, .inl ⟨id, ⟨a, b, c, hq⟩, fun e => by simp [e] at h⟩⟩
  · rename_i n b e xs hn hq
    exact ⟨n, hn, .inr ⟨⟨b, e, xs, hq⟩, by simpa using h⟩⟩
  · cases h
theorem appLd_ld {i j : Nat} {s : List V} {o oj : Oper} (hj : ops[j]? = some oj) (ha : isApp oj = true) (hl : isLd o = true) (hlt : lt.any (fun p => p.1 == j) = false) (hk : linked ms i j = false) (h : appLd E ops ms lt s0 base i s o = true) :
    ∃ n, ldNo E ops base s0 o = some n ∧ ∀ k ∈ refsO E s o, k = n := by
  unfold appLd at h
  rw [List.all_eq_true] at h
  have h := h j (by simpa using (Array.getElem?_eq_some_iff.1 hj).1)
  simp only [hj, ha, hl, hlt, hk, Bool.and_self, Bool.not_true, Bool.false_or, Bool.and_eq_true] at h
  obtain ⟨_, h⟩ := h
  split at h
  · rename_i n hn
    exact ⟨n, hn, fun k hk => by simpa using List.all_eq_true.1 h k hk⟩
  · cases h
theorem actD_ld {k : Nat} {o : Oper} {s : List V} {H H1 : Heap} {v : V} (hc : isLd o = true) (h : actD call E ops k o ⟨s, H⟩ = some (v, H1)) :
    H1 = H ∧ ∀ H' k', SimAt (refsO E s o) H H' → actD call E ops k' o ⟨s, H'⟩ = some (v, H') := by
  have key : ∀ {k : Nat} {H H1 : Heap}, opD call E k H s o = some (v, H1) → H1 = H ∧ ∀ H' k', SimAt (refsO E s o) H H' → opD call E k' H' s o = some (v, H') := by
    intro k H H1 h
    obtain ⟨dst, op, type, pos, after, guard⟩ := o
    unfold isLd at hc
    split at hc
    · rename_i t a hop
      simp only at hop
      subst hop
      simp only [opD] at h ⊢
      obtain ⟨h1, h2⟩ := map_fix h
      exact ⟨h2, fun H' k' hs => by rw [loadD_sim (sim_op hs (by simp [Op.operands])), h1]; rfl⟩
    · cases hc
  unfold actD at *
  cases hg : o.guard with
  | none => simp only [hg] at h ⊢; exact key h
  | some jw =>
    obtain ⟨j, want⟩ := jw
    simp only [hg] at h ⊢
    cases hd : (ops[j]?).bind (·.dst) with
    | none => simp [hd] at h
    | some d =>
      simp only [hd] at h ⊢
      cases hgd : guardD (s.getD d .und) want with
      | none => rw [hgd] at h; cases h
      | some r =>
        rw [hgd] at h
        cases r with
        | true => simp only at h ⊢; exact key h
        | false =>
          simp only [Option.some.injEq, Prod.mk.injEq] at h ⊢
          exact ⟨h.2.symm, fun H' k' _ => ⟨h.1, trivial⟩⟩
theorem appendD_keep {k : Nat} {H H1 : Heap} {t u : TypeId} {x v : V} {id a b c : Nat} (h : appendD E k H t u (.lsl id a b c) x = some (v, H1)) : ∀ i, i ≠ id → H1[i]? = H[i]? := by
  intro i hi
  unfold appendD at h
  split at h
  · split at h
    · split at h
      · simp only at h
        split at h
        · split at h
          · split at h
            · simp only [Option.some.injEq, Prod.mk.injEq] at h
              rw [← h.2, List.getElem?_set_ne (Ne.symm hi)]
            · cases h
          · split at h
            · simp only [Option.some.injEq, Prod.mk.injEq] at h
              rw [← h.2, List.getElem?_set_ne (Ne.symm hi)]
            · cases h
        · cases h
      · cases h
    · cases h
  · cases h
theorem actD_app {k : Nat} {o : Oper} {s : List V} {H H1 : Heap} {v : V} {id : Nat} (hc : isApp o = true) (ha : ∃ a b c, addrOf E s o = .lsl id a b c) (h : actD call E ops k o ⟨s, H⟩ = some (v, H1)) : ∀ i, i ≠ id → H1[i]? = H[i]? := by
  have key : opD call E k H s o = some (v, H1) → ∀ i, i ≠ id → H1[i]? = H[i]? := by
    intro h
    obtain ⟨q1, q2, q3, ha⟩ := ha
    have hwa : ∃ a, writesAt o = some a := by
      unfold addrOf at ha
      cases hw : writesAt o with
      | none => rw [hw] at ha; cases ha
      | some a => exact ⟨a, rfl⟩
    obtain ⟨wa, hwa⟩ := hwa
    have hae : ev E s wa = .lsl id q1 q2 q3 := by
      unfold addrOf at ha
      rw [hwa] at ha
      exact ha
    rcases writesAt_op hwa with ⟨t, v', hop⟩ | ⟨c, x, hop, hcal, hargs⟩
    · unfold isApp at hc
      rw [hop] at hc
      cases hc
    · have hargs' : evs E s c.args = [ev E s wa, ev E s x] := by unfold evs; rw [hargs]; rfl
      unfold opD at h
      simp only [hop, hcal, hargs'] at h
      unfold builtinD at h
      split at h
      · rename_i h1 _; cases h1
      · rename_i a y t' u' hb he1 he2
        simp only [List.cons.injEq, and_true] at he1
        obtain ⟨rfl, rfl⟩ := he1
        rw [hae] at h
        exact appendD_keep h
      · simp_all
      · simp_all
      · simp_all
      · rename_i h1; cases h1
      · rename_i h1; cases h1
      · cases h
  unfold actD at *
  cases hg : o.guard with
  | none => simp only [hg] at h; exact key h
  | some jw =>
    obtain ⟨j, want⟩ := jw
    simp only [hg] at h
    cases hd : (ops[j]?).bind (·.dst) with
    | none => simp [hd] at h
    | some d =>
      simp only [hd] at h
      cases hgd : guardD (s.getD d .und) want with
      | none => rw [hgd] at h; cases h
      | some r =>
        rw [hgd] at h
        cases r with
        | true => simp only at h; exact key h
        | false =>
          simp only [Option.some.injEq, Prod.mk.injEq] at h
          rw [h.2]
          exact fun i _ => rfl

theorem appendD_keep0 {k : Nat} {H H1 : Heap} {t u : TypeId} {x v : V} {a : Bool} {b : Nat} {c : List V} (hk : k = H.length) (h : appendD E k H t u (.sl a b c) x = some (v, H1)) : ∀ i, i ≠ H.length → H1[i]? = H[i]? := by
  intro i hi
  subst hk
  unfold appendD at h
  split at h
  · split at h
    · split at h
      · split at h
        · rename_i heq; cases heq
        · split at h
          · simp only [Option.some.injEq, Prod.mk.injEq] at h
            rw [← h.2, place_end]
            grind
          · cases h
        · rename_i heq; cases heq
        · rename_i heq; cases heq
        · cases h
      · cases h
    · cases h
  · cases h
theorem actD_app0 {k : Nat} {o : Oper} {s : List V} {H H1 : Heap} {v : V} (hc : isApp o = true) (hkl : k = H.length) (ha : ∃ a b c, addrOf E s o = .sl a b c) (h : actD call E ops k o ⟨s, H⟩ = some (v, H1)) : ∀ i, i ≠ H.length → H1[i]? = H[i]? := by
  have key : opD call E k H s o = some (v, H1) → ∀ i, i ≠ H.length → H1[i]? = H[i]? := by
    intro h
    obtain ⟨q1, q2, q3, ha⟩ := ha
    have hwa : ∃ a, writesAt o = some a := by
      unfold addrOf at ha
      cases hw : writesAt o with
      | none => rw [hw] at ha; cases ha
      | some a => exact ⟨a, rfl⟩
    obtain ⟨wa, hwa⟩ := hwa
    have hae : ev E s wa = .sl q1 q2 q3 := by
      unfold addrOf at ha
      rw [hwa] at ha
      exact ha
    rcases writesAt_op hwa with ⟨t, v', hop⟩ | ⟨c, x, hop, hcal, hargs⟩
    · unfold isApp at hc
      rw [hop] at hc
      cases hc
    · have hargs' : evs E s c.args = [ev E s wa, ev E s x] := by unfold evs; rw [hargs]; rfl
      unfold opD at h
      simp only [hop, hcal, hargs'] at h
      unfold builtinD at h
      split at h
      · rename_i h1 _; cases h1
      · rename_i a y t' u' hb he1 he2
        simp only [List.cons.injEq, and_true] at he1
        obtain ⟨rfl, rfl⟩ := he1
        rw [hae] at h
        exact appendD_keep0 hkl h
      · simp_all
      · simp_all
      · simp_all
      · rename_i h1; cases h1
      · rename_i h1; cases h1
      · cases h
  unfold actD at *
  cases hg : o.guard with
  | none => simp only [hg] at h; exact key h
  | some jw =>
    obtain ⟨j, want⟩ := jw
    simp only [hg] at h
    cases hd : (ops[j]?).bind (·.dst) with
    | none => simp [hd] at h
    | some d =>
      simp only [hd] at h
      cases hgd : guardD (s.getD d .und) want with
      | none => rw [hgd] at h; cases h
      | some r =>
        rw [hgd] at h
        cases r with
        | true => simp only at h; exact key h
        | false =>
          simp only [Option.some.injEq, Prod.mk.injEq] at h
          rw [h.2]
          exact fun i _ => rfl

/-- **Two operations change places.** -/
theorem stepR_swap (hcalls : CallsOK E call) (hm : ∀ i o, ops[i]? = some o → clsOf E o = .a → i < m) {x y : Nat} {ox oy : Oper} (hx : ops[x]? = some ox) (hy : ops[y]? = some oy) (hxy : x ≠ y)
    (hpass : (mayPass E ops ox oy || (latePass E ops lt x ox oy || latePass E ops lt y oy ox)) = true) (hlt : ∀ x t, (x, t) ∈ lt → ∃ ox, ops[x]? = some ox ∧ tgtOf E ops ox = some t) (hbit : (ms.getD y 0).testBit x = false) (hbit' : (ms.getD x 0).testBit y = false) {st st1 st2 : St}
    (hbase : base ≤ st.H.length)
    (h1 : stepR call E ops ms lt s0 base m x st = some st1) (h2 : stepR call E ops ms lt s0 base m y st1 = some st2) :
    ∃ st1', stepR call E ops ms lt s0 base m y st = some st1' ∧ stepR call E ops ms lt s0 base m x st1' = some st2 := by
  have hpure := hcalls.pure
  have hfree := hcalls.free
  have hap : ox.apart ops oy = true ∨ oy.apart ops ox = true := by
    simp only [Bool.or_eq_true, mayPass, latePass, Bool.and_eq_true] at hpass
    rcases hpass with h | h | h
    · exact .inl h.2
    · exact .inl h.1
    · exact .inr h.1
  have hsp : (∀ d, ox.dst = some d → d ∉ oy.looksAt ops) ∧ (∀ d, ox.dst = some d → oy.dst ≠ some d) ∧ (∀ d, oy.dst = some d → d ∉ ox.looksAt ops) := by
    rcases hap with h | h
    · exact Oper.apart_spec h
    · obtain ⟨b1, b2, b3⟩ := Oper.apart_spec h
      grind
  obtain ⟨a1, a2, a3⟩ := hsp
  obtain ⟨s1, ⟨l1, c1⟩, d1, vx, Hx, e1, rfl⟩ := (stepR_iff hx).1 h1
  obtain ⟨s2, ⟨l2, c2⟩, d2, vy, Hy, e2, rfl⟩ := (stepR_iff hy).1 h2
  obtain ⟨s, H⟩ := st
  simp only at *
  -- the slots that each looks at are the same in both orders
  rw [actD_set a1] at e2
  rw [lateD_set a1] at l2
  have s2' : seesOK E ops ms lt s0 base m y s oy := by unfold seesOK at *; rw [refsO_set a1, quietAt_set a1, appLd_set a1] at s2; exact s2
  have s1' : seesOK E ops ms lt s0 base m x (setSlot s oy.dst vy) ox := by unfold seesOK at *; rw [refsO_set a3, quietAt_set a3, appLd_set a3]; exact s1
  -- places that were kept
  have keptx : clsOf E ox = .a → base + x < H.length := fun hc => by
    grind
  have nox : clsOf E ox = .a → base + x ∉ refsO E s oy := fun hc hin => by
    rcases s2'.1 _ hin with h | ⟨h, _⟩ | ⟨_, h⟩
    · omega
    · grind
    simp_all
  have noy : clsOf E oy = .a → base + y ∉ refsO E s ox := fun hc hin => by
    rcases s1.1 _ hin with h | ⟨h, _⟩ | ⟨_, h⟩
    · omega
    · grind
    simp_all
  -- what is not ordered with a call that may leave boxes does not see them
  have seex : clsOf E oy = .c → ∀ id ∈ refsO E s ox, id < base + m := fun hc id hid => by
    rcases s1.1 id hid with h | ⟨_, h⟩ | ⟨h, _⟩
    · omega
    · exfalso
      unfold freeAt at h
      rw [List.all_eq_true] at h
      have := h y (by grind)
      simp only [hy, hc, linked, hbit, hbit', decide_true, Bool.not_true, Bool.or_self, Bool.or_false, beq_iff_eq] at this
      exact hxy this.symm
    · exact h
  have seey : clsOf E ox = .c → ∀ id ∈ refsO E s oy, id < base + m := fun hc id hid => by
    rcases s2'.1 id hid with h | ⟨_, h⟩ | ⟨h, _⟩
    · omega
    · exfalso
      unfold freeAt at h
      rw [List.all_eq_true] at h
      have := h x (by simpa using (Array.getElem?_eq_some_iff.1 hx).1)
      simp only [hx, hc, linked, hbit, hbit', decide_true, Bool.not_true, Bool.or_self, Bool.or_false, beq_iff_eq] at this
      exact hxy this
    · exact h
  have fin : ∀ (Hy' : Heap), seesOK E ops ms lt s0 base m y s oy → (lateD E ms lt s0 base y s H oy = true ∧ capOK E ops base m oy H) → (clsOf E oy = .a → ∃ b, H[base + y]? = some b ∧ (b.live = false ∧ b.row = false)) → actD call E ops (kOf E oy base y H) oy ⟨s, H⟩ = some (vy, Hy') →
      (lateD E ms lt s0 base x s Hy' ox = true ∧ capOK E ops base m ox Hy') → (clsOf E ox = .a → ∃ b, Hy'[base + x]? = some b ∧ (b.live = false ∧ b.row = false)) → actD call E ops (kOf E ox base x Hy') ox ⟨s, Hy'⟩ = some (vx, Hy) →
      ∃ st1', stepR call E ops ms lt s0 base m y ⟨s, H⟩ = some st1' ∧ stepR call E ops ms lt s0 base m x st1' = some ⟨setSlot (setSlot s ox.dst vx) oy.dst vy, Hy⟩ := by
    intro Hy' g1 l3 g2 g3 l4 g4 g5
    refine ⟨⟨setSlot s oy.dst vy, Hy'⟩, (stepR_iff hy).2 ⟨g1, l3, g2, vy, Hy', g3, rfl⟩, (stepR_iff hx).2 ⟨s1', ⟨(by rw [lateD_set a3]; exact l4.1), l4.2⟩, g4, vx, Hy, ?_, ?_⟩⟩
    · rw [actD_set a3]; exact g5
    · rw [setSlot_comm a2]
  have notin : ∀ (z : Nat) (oz : Oper), ops[z]? = some oz → clsOf E oz ≠ .w → ∀ t, (z, t) ∉ lt := by
    intro z oz hz hc t hin
    obtain ⟨o', ho', ht'⟩ := hlt z t hin
    rw [hz] at ho'
    cases ho'
    exact hc (tgtOf_w ht').1
  cases hlx : latePass E ops lt x ox oy with
  | true =>
    unfold latePass at hlx
    simp only [Bool.and_eq_true, List.any_eq_true, beq_iff_eq] at hlx
    obtain ⟨_, hny, ⟨x', t⟩, hin, hx'⟩ := hlx
    simp only at hx'
    subst hx'
    obtain ⟨ox', hox', htx⟩ := hlt _ t hin
    rw [hx] at hox'
    cases hox'
    have hnw := needs_w hny
    obtain ⟨b, n, hn, hnin, hnlt, rfl, f3⟩ := actD_late htx hin l1 e1
    have hjy : n ∉ refsO E s oy := late_refs hin hxy hny hbit hbit' hn l2
    have late1 : ∀ Hy' : Heap, Hy'[n]? = H[n]? → lateD E ms lt s0 base x' s Hy' ox = true := fun Hy' hat => by
      refine lateD_same (fun p hp k he hk => ?_) l1
      grind
    have ncx : capC E ox = true → False := fun hc => capC_tgt htx hc
    by_cases hyc : clsOf E oy = .c
    · obtain ⟨idy, nbs, y1, rfl, y4⟩ := actD_free hfree hyc e2
      have hl : base + m ≤ H.length := by have := (c2 (capC_c hyc)).1; rw [List.length_set] at this; exact this
      have hjid : n ∉ idy := fun h => hjy (y1 _ h)
      have g3 := y4 H (kOf E oy base y H) (by rw [List.length_set]) (sim_set hjy).symm
      have hat : (bump H idy ++ nbs)[n]? = H[n]? := by
        rw [List.getElem?_append_left (by rw [bump_length]; exact hnlt), bump_get]
        cases H[n]? with
        | none => rfl
        | some b => simp [hjid]
      refine fin _ s2' ⟨lateD_heap (notin y oy hy hnw) l2, fun _ => ⟨hl, fun h => (row_c h hyc).elim⟩⟩ (fun hc => by simp_all) g3 ⟨late1 _ hat, fun hc => (ncx hc).elim⟩ (fun hc => by simp_all) ?_
      rw [f3 _ _ hat (sim_append nbs (sim_bump _ _ _) (fun i hi => by rw [bump_length]; exact Nat.lt_of_lt_of_le (seex hyc i hi) hl))]
      congr 2
      rw [List.set_append_left _ _ (by rw [bump_length]; exact hnlt)]
      congr 1
      have := eff_set (ids := idy) (nb := none) (k' := 0) (H := H) (b := b) (k := n) (fun h => by cases h) hjid
      exact this.symm
    have hne : clsOf E oy = .a → base + y ≠ n := fun hc e => noy hc (by rw [e]; exact hnin)
    obtain ⟨idy, nby, y1, y2, rfl, y4⟩ := actD_eff hpure hnw hyc s2'.2.1 e2
    have hkH : kOf E oy base y (H.set n b) = kOf E oy base y H := by unfold kOf; rw [List.length_set]
    have deady : clsOf E oy = .a → ∃ b, H[base + y]? = some b ∧ (b.live = false ∧ b.row = false) := fun hc => by
      grind
    have hyl : nby.isSome = true → kOf E oy base y H < H.length ∧ kOf E oy base y H ≠ n := fun h => by
      have hc := y2 h
      obtain ⟨b', hb', _⟩ := deady hc
      have := (List.getElem?_eq_some_iff.1 hb').1
      unfold kOf
      grind
    have hjid : n ∉ idy := fun h => hjy (y1 _ h)
    have g3 := y4 H (kOf E oy base y H) (fun hc => by rw [hkH]) (fun i hi => by grind)
    have hat := eff_at (H := H) hyl hjid
    refine fin _ s2' ⟨lateD_heap (notin y oy hy hnw) l2, capOK_no hyc hnw⟩ deady g3 ⟨late1 _ hat, fun hc => (ncx hc).elim⟩ (fun hc => by simp_all) ?_
    rw [f3 _ _ hat (eff_sim (fun h => ⟨(hyl h).1, by
        have hk : kOf E oy base y H = base + y := by simp [kOf, y2 h]
        rw [hk]
        exact noy (y2 h)⟩)), hkH, eff_set hyl hjid]
  | false =>
  cases hly : latePass E ops lt y oy ox with
  | true =>
    unfold latePass at hly
    simp only [Bool.and_eq_true, List.any_eq_true, beq_iff_eq] at hly
    obtain ⟨_, hnx, ⟨y', t⟩, hin, hy'⟩ := hly
    simp only at hy'
    subst hy'
    obtain ⟨oy', hoy', hty⟩ := hlt _ t hin
    rw [hy] at hoy'
    cases hoy'
    have hnw := needs_w hnx
    obtain ⟨b, n, hn, hnin, hnlt, rfl, f3⟩ := actD_late hty hin l2 e2
    have hjx : n ∉ refsO E s ox := late_refs hin (Ne.symm hxy) hnx hbit' hbit hn l1
    have late2 : Hx[n]? = H[n]? → lateD E ms lt s0 base y' s H oy = true := fun hat => by
      refine lateD_same (fun p hp k he hk => ?_) l2
      grind
    have ncy : capC E oy = true → False := fun hc => capC_tgt hty hc
    by_cases hxc : clsOf E ox = .c
    · obtain ⟨idx, nbs, x1, rfl, x4⟩ := actD_free hfree hxc e1
      have hl : base + m ≤ H.length := (c1 (capC_c hxc)).1
      have hnl : n < H.length := Nat.lt_of_lt_of_le (seey hxc n hnin) hl
      have hjid : n ∉ idx := fun h => hjx (x1 _ h)
      have hat : (bump H idx ++ nbs)[n]? = H[n]? := by
        rw [List.getElem?_append_left (by rw [bump_length]; exact hnl), bump_get]
        cases H[n]? with
        | none => rfl
        | some b => simp [hjid]
      refine fin _ s2' ⟨late2 hat, fun hc => (ncy hc).elim⟩ (fun hc => by rw [(tgtOf_w hty).1] at hc; cases hc) (f3 _ H hat.symm (sim_append nbs (sim_bump _ _ _) (fun i hi => by rw [bump_length]; exact Nat.lt_of_lt_of_le (seey hxc i hi) hl)).symm)
        ⟨lateD_heap (notin x ox hx hnw) l1, fun _ => ⟨by grind, fun h => (row_c h hxc).elim⟩⟩ (fun hc => by simp_all) ?_
      rw [x4 _ _ (by rw [List.length_set]) (sim_set hjx)]
      congr 2
      rw [List.set_append_left _ _ (by rw [bump_length]; exact hnl)]
      congr 1
      have := eff_set (ids := idx) (nb := none) (k' := 0) (H := H) (b := b) (k := n) (fun h => by cases h) hjid
      exact this
    obtain ⟨idx, nbx, x1, x2, rfl, x4⟩ := actD_eff hpure hnw hxc s1.2.1 e1
    have hne : clsOf E ox = .a → base + x ≠ n := fun hc e => nox hc (by rw [e]; exact hnin)
    have hxl : nbx.isSome = true → kOf E ox base x H < H.length ∧ kOf E ox base x H ≠ n := fun h => by
      have hc := x2 h
      have := keptx hc
      unfold kOf
      grind
    have hjid : n ∉ idx := fun h => hjx (x1 _ h)
    have hat := eff_at (H := H) hxl hjid
    have hkS : kOf E ox base x (H.set n b) = kOf E ox base x H := by unfold kOf; rw [List.length_set]
    have hsy : SimAt (refsO E s oy) (eff idx nbx (kOf E ox base x H) H) H := (eff_sim (fun h => ⟨(hxl h).1, by
      have hk : kOf E ox base x H = base + x := by simp [kOf, x2 h]
      grind⟩)).symm
    refine fin _ s2' ⟨late2 hat, fun hc => (ncy hc).elim⟩ (fun hc => by simp_all) (f3 _ H hat.symm hsy) ⟨lateD_heap (notin x ox hx hnw) l1, capOK_no hxc hnw⟩ (fun hc => ?_) ?_
    · grind
    · rw [x4 _ _ (fun hc => by rw [hkS]) (fun i hi => by rw [List.getElem?_set_ne (fun e => hjx (by rw [e]; exact hi))]), hkS, eff_set hxl hjid]
  | false =>
  rw [hlx, hly, Bool.or_false, Bool.or_false] at hpass
  unfold mayPass at hpass
  simp only [Bool.and_eq_true] at hpass
  have hcomp := hpass.1
  simp only [Bool.or_eq_true, Bool.and_eq_true] at hcomp
  have norow : ∀ (z : Nat) (oz : Oper), ops[z]? = some oz → rowC E oz = true → ∀ t, (z, t) ∉ lt := by
    intro z oz hz hc t hin
    obtain ⟨o', ho', ht'⟩ := hlt z t hin
    rw [hz] at ho'
    cases ho'
    exact capC_tgt ht' (capC_row hc)
  have nolt : lt.any (fun p => p.1 == x) = false ∨ isApp ox = false ∨ isLd oy = false := by
    cases h1 : isLd oy with
    | false => exact .inr (.inr rfl)
    | true =>
      refine .inl ?_
      have hn : needs E oy = true := isLd_needs h1
      have : latePass E ops lt x ox oy = false := hlx
      unfold latePass at this
      rw [hpass.2, hn, Bool.true_and, Bool.true_and] at this
      exact this
  have nolt' : lt.any (fun p => p.1 == y) = false ∨ isApp oy = false ∨ isLd ox = false := by
    cases h1 : isLd ox with
    | false => exact .inr (.inr rfl)
    | true =>
      refine .inl ?_
      have hn : needs E ox = true := isLd_needs h1
      have : latePass E ops lt y oy ox = false := hly
      unfold latePass at this
      rw [apart_symm hpass.2, hn, Bool.true_and, Bool.true_and] at this
      exact this
  have hxs : x < ops.size := (Array.getElem?_eq_some_iff.1 hx).1
  have hys : y < ops.size := (Array.getElem?_eq_some_iff.1 hy).1
  rcases hcomp with (hcomp | ⟨hrx, hay⟩ | ⟨hry, hax⟩) | ⟨hpx, hldy⟩ | ⟨hpy, hldx⟩
  rotate_left
  · have hya := isAl_a (E := E) hay
    have hny : clsOf E oy ≠ .w := by rw [hya]; simp
    have hnc : clsOf E oy ≠ .c := by rw [hya]; simp
    have hrw := (rowC_w hrx).1
    have hk : ∀ H', kOf E oy base y H' = base + y := fun H' => by simp [kOf, hya]
    obtain ⟨hl, hal⟩ := c1 (capC_row hrx)
    obtain ⟨b0, hb0, hr0⟩ := alOK_at hy hay (hal hrx)
    have hlt0 := (List.getElem?_eq_some_iff.1 hb0).1
    obtain ⟨r1, r2⟩ := actD_row hcalls.row hrx e1 hb0 hr0
    have d2' : clsOf E oy = .a → ∃ b, H[base + y]? = some b ∧ (b.live = false ∧ b.row = false) := fun hc => by
      obtain ⟨b, hb, hd⟩ := d2 hc
      rw [r1] at hb
      cases hb
      exact ⟨b0, hb0, hd⟩
    rw [hk] at e2
    rcases actD_al hay e2 with ⟨b, hbr, rfl, f⟩ | ⟨rfl, f⟩
    · have hp : place H (base + y) b = H.set (base + y) b := by unfold place; rw [if_pos hlt0]
      have hp' : place Hx (base + y) b = Hx.set (base + y) b := by unfold place; rw [if_pos (List.getElem?_eq_some_iff.1 r1).1]
      refine fin (H.set (base + y) b) s2' ⟨lateD_heap (notin y oy hy hny) l2, capOK_no hnc hny⟩ d2' (by rw [hk, f, hp]) ⟨lateD_heap (norow x ox hx hrx) l1, fun _ => ⟨by rw [List.length_set]; exact hl, fun _ => alOK_set hbr (hal hrx)⟩⟩ (fun hc => by rw [hrw] at hc; cases hc) ?_
      rw [hp']
      exact r2 b _ hbr
    · exact fin H s2' ⟨lateD_heap (notin y oy hy hny) l2, capOK_no hnc hny⟩ d2' (by rw [hk]; exact f H) ⟨l1, c1⟩ (fun hc => by rw [hrw] at hc; cases hc) e1
  · have hxa := isAl_a (E := E) hax
    have hnx : clsOf E ox ≠ .w := by rw [hxa]; simp
    have hnc : clsOf E ox ≠ .c := by rw [hxa]; simp
    have hrw := (rowC_w hry).1
    have hk : ∀ H', kOf E ox base x H' = base + x := fun H' => by simp [kOf, hxa]
    obtain ⟨bd, hbd, hdl, hdr⟩ := d1 hxa
    have hlt0 := (List.getElem?_eq_some_iff.1 hbd).1
    rw [hk] at e1
    rcases actD_al hax e1 with ⟨b, hbr, rfl, f⟩ | ⟨rfl, f⟩
    · have hp : place H (base + x) b = H.set (base + x) b := by unfold place; rw [if_pos hlt0]
      rw [hp] at e2 c2
      obtain ⟨hl, hal⟩ := c2 (capC_row hry)
      rw [List.length_set] at hl
      have hback : (H.set (base + x) b).set (base + x) bd = H := by
        rw [List.set_set]
        apply List.ext_getElem?
        intro i
        rw [List.getElem?_set]
        grind
      obtain ⟨r1, r2⟩ := actD_row hcalls.row hry e2 (List.getElem?_set_self hlt0) hbr
      have hlty := (List.getElem?_eq_some_iff.1 r1).1
      have r3 := r2 bd (kOf E oy base y H) hdr
      rw [hback] at r3
      have hal' := alOK_set (n := base + x) hdr (hal hry)
      rw [hback] at hal'
      refine fin (Hy.set (base + x) bd) s2' ⟨lateD_heap (norow y oy hy hry) l2, fun _ => ⟨hl, fun _ => hal'⟩⟩ (fun hc => by rw [hrw] at hc; cases hc) r3 ⟨lateD_heap (notin x ox hx hnx) l1, capOK_no hnc hnx⟩ (fun _ => ⟨bd, List.getElem?_set_self hlty, hdl, hdr⟩) ?_
      rw [hk, f]
      have hq : place (Hy.set (base + x) bd) (base + x) b = Hy := by
        unfold place
        rw [if_pos (by rw [List.length_set]; exact hlty), List.set_set]
        apply List.ext_getElem?
        intro i
        rw [List.getElem?_set]
        grind
      rw [hq]
    · obtain ⟨r1, r2⟩ := actD_row hcalls.row hry e2 hbd hdr
      exact fin Hy s2' ⟨l2, c2⟩ (fun hc => by rw [hrw] at hc; cases hc) e2 ⟨lateD_heap (notin x ox hx hnx) l1, capOK_no hnc hnx⟩ (fun _ => ⟨bd, r1, hdl, hdr⟩) (by rw [hk]; exact f Hy)
  · have hln := isLd_n (E := E) hldy
    have hw := isApp_w (E := E) hpx
    have hlt1 : lt.any (fun p => p.1 == x) = false := by
      rcases nolt with h | h | h
      · exact h
      · rw [hpx] at h; cases h
      · rw [hldy] at h; cases h
    obtain ⟨n, hn1, hn2⟩ := appLd_app hy hpx hldy hlt1 (by unfold linked; rw [hbit, hbit']; rfl) s1.2.2
    obtain ⟨n', hn1', hn4⟩ := appLd_ld hx hpx hldy hlt1 (by unfold linked; rw [hbit, hbit']; rfl) s2'.2.2
    rw [hn1] at hn1'
    cases hn1'
    obtain ⟨q1, q2⟩ := actD_ld hldy e2
    subst q1
    have hsim : SimAt (refsO E s oy) Hy H := fun i hi => by
      rcases hn2 with ⟨id, hn2, hn3⟩ | ⟨hn2, hn3⟩
      · rw [actD_app hpx hn2 e1 i (by rw [hn4 i hi]; exact hn3)]
      · rw [actD_app0 hpx (by unfold kOf; rw [if_neg (by rw [hw]; simp)]) hn2 e1 i (by rw [hn4 i hi]; omega)]
    refine fin H s2' ⟨lateD_heap (notin y oy hy (by rw [hln]; simp)) l2, capOK_no (by rw [hln]; simp) (by rw [hln]; simp)⟩ (fun hc => by rw [hln] at hc; cases hc) (q2 _ _ hsim) ⟨l1, c1⟩ (fun hc => by rw [hw] at hc; cases hc) e1
  · have hln := isLd_n (E := E) hldx
    have hw := isApp_w (E := E) hpy
    have hlt1 : lt.any (fun p => p.1 == y) = false := by
      rcases nolt' with h | h | h
      · exact h
      · rw [hpy] at h; cases h
      · rw [hldx] at h; cases h
    obtain ⟨n, hn1, hn2⟩ := appLd_app hx hpy hldx hlt1 (by unfold linked; rw [hbit, hbit']; rfl) s2'.2.2
    obtain ⟨n', hn1', hn4⟩ := appLd_ld hy hpy hldx hlt1 (by unfold linked; rw [hbit, hbit']; rfl) s1.2.2
    rw [hn1] at hn1'
    cases hn1'
    obtain ⟨q1, q2⟩ := actD_ld hldx e1
    subst q1
    have hsim : SimAt (refsO E s ox) Hx Hy := fun i hi => by
      rcases hn2 with ⟨id, hn2, hn3⟩ | ⟨hn2, hn3⟩
      · rw [actD_app hpy hn2 e2 i (by rw [hn4 i hi]; exact hn3)]
      · rw [actD_app0 hpy (by unfold kOf; rw [if_neg (by rw [hw]; simp)]) hn2 e2 i (by rw [hn4 i hi]; omega)]
    exact fin Hy s2' ⟨l2, c2⟩ (fun hc => by rw [hw] at hc; cases hc) e2 ⟨lateD_heap (notin x ox hx (by rw [hln]; simp)) l1, capOK_no (by rw [hln]; simp) (by rw [hln]; simp)⟩ (fun hc => by rw [hln] at hc; cases hc) (q2 _ _ hsim)
  by_cases hcx : clsOf E ox = .s
  · obtain ⟨f1, f2⟩ := actD_s hcx e1
    subst f1
    exact fin Hy s2' ⟨l2, c2⟩ d2 e2 ⟨lateD_heap (notin x ox hx (by simp_all)) l1, capOK_no (by rw [hcx]; simp) (by rw [hcx]; simp)⟩ (fun hc => by simp_all) (f2 _ _)
  by_cases hcy : clsOf E oy = .s
  · obtain ⟨f1, f2⟩ := actD_s hcy e2
    subst f1
    exact fin H s2' ⟨lateD_heap (notin y oy hy (by simp_all)) l2, capOK_no (by rw [hcy]; simp) (by rw [hcy]; simp)⟩ (fun hc => by simp_all) (f2 _ _) ⟨l1, c1⟩ d1 e1
  have hwx : clsOf E ox ≠ .w := fun hw => by rw [hw] at hcomp; cases hh : clsOf E oy <;> simp_all [compat]
  have hwy : clsOf E oy ≠ .w := fun hw => by rw [hw] at hcomp; cases hh : clsOf E ox <;> simp_all [compat]
  by_cases hxc : clsOf E ox = .c
  · have hyc : clsOf E oy ≠ .c := fun hc => by rw [hxc, hc] at hcomp; cases hcomp
    obtain ⟨idx, nbs, x1, rfl, x4⟩ := actD_free hfree hxc e1
    obtain ⟨idy, nby, y1, y2, rfl, y4⟩ := actD_eff hpure hwy hyc s2'.2.1 e2
    have hl : base + m ≤ H.length := (c1 (capC_c hxc)).1
    have hry : ∀ i ∈ refsO E s oy, i < H.length := fun i hi => Nat.lt_of_lt_of_le (seey hxc i hi) hl
    have kyl : nby.isSome = true → base + y < H.length := fun h => by grind
    have g3 := y4 H (kOf E oy base y H) (fun hc => by simp [kOf, hc]) (sim_append nbs (sim_bump _ _ _) (fun i hi => by rw [bump_length]; exact hry i hi)).symm
    have hke : ∀ H' : Heap, eff idy nby (kOf E oy base y H') = eff idy nby (base + y) := fun H' => by
      cases hnb : nby with
      | none => rfl
      | some b => simp [kOf, y2 (by rw [hnb]; rfl)]
    rw [hke] at g3
    have kyn : nby.isSome = true → base + y ∉ refsO E s ox := fun h => noy (y2 h)
    have hlen : (eff idy nby (base + y) H).length = H.length := eff_length kyl
    have dy : clsOf E oy = .a → ∃ b, H[base + y]? = some b ∧ (b.live = false ∧ b.row = false) := fun hc => by
      obtain ⟨b, hb, hd⟩ := d2 hc
      have hlt : base + y < H.length := by have := hm y oy hy hc; omega
      rw [List.getElem?_append_left (by rw [bump_length]; exact hlt), bump_get] at hb
      grind
    refine fin _ s2' ⟨lateD_heap (notin y oy hy hwy) l2, capOK_no hyc hwy⟩ dy g3 ⟨lateD_heap (notin x ox hx hwx) l1, fun _ => ⟨by rw [hlen]; exact hl, fun h => (row_c h hxc).elim⟩⟩ (fun hc => by simp_all) ?_
    rw [x4 _ _ hlen (eff_sim (fun h => ⟨kyl h, kyn h⟩)), hke]
    congr 2
    rw [eff_append nbs (fun i hi => by rw [bump_length]; exact hry i (y1 i hi)) (fun h => by rw [bump_length]; exact kyl h)]
    congr 1
    have := eff_comm (ids1 := idx) (ids2 := idy) (nb1 := none) (nb2 := nby) (k1 := 0) (k2 := base + y) (H := H) (fun h => by cases h) (fun h => ⟨kyl h, fun hin => kyn h (x1 _ hin)⟩) (fun h => by cases h)
    exact this
  by_cases hyc : clsOf E oy = .c
  · obtain ⟨idx, nbx, x1, x2, rfl, x4⟩ := actD_eff hpure hwx hxc s1.2.1 e1
    obtain ⟨idy, nbs, y1, rfl, y4⟩ := actD_free hfree hyc e2
    have kxl : nbx.isSome = true → base + x < H.length := fun h => keptx (x2 h)
    have hke : ∀ H' : Heap, eff idx nbx (kOf E ox base x H') = eff idx nbx (base + x) := fun H' => by
      cases hnb : nbx with
      | none => rfl
      | some b => simp [kOf, x2 (by rw [hnb]; rfl)]
    rw [hke] at c2 y4
    have hlen : (eff idx nbx (base + x) H).length = H.length := eff_length kxl
    have hl : base + m ≤ H.length := by have := (c2 (capC_c hyc)).1; rw [hlen] at this; exact this
    have hrx : ∀ i ∈ refsO E s ox, i < H.length := fun i hi => Nat.lt_of_lt_of_le (seex hyc i hi) hl
    have g3 := y4 H (kOf E oy base y H) hlen.symm (eff_sim (fun h => ⟨kxl h, nox (x2 h)⟩)).symm
    refine fin _ s2' ⟨lateD_heap (notin y oy hy hwy) l2, fun _ => ⟨hl, fun h => (row_c h hyc).elim⟩⟩ (fun hc => by simp_all) g3 ⟨lateD_heap (notin x ox hx hwx) l1, capOK_no hxc hwx⟩ (fun hc => ?_) ?_
    · obtain ⟨b, hb, hd⟩ := d1 hc
      have hlt := keptx hc
      rw [List.getElem?_append_left (by rw [bump_length]; exact hlt), bump_get, hb]
      grind
    · rw [x4 _ (kOf E ox base x (bump H idy ++ nbs)) (fun hc => by simp [kOf, hc]) (sim_append nbs (sim_bump _ _ _) (fun i hi => by rw [bump_length]; exact hrx i hi)), hke, hke]
      congr 2
      rw [eff_append nbs (fun i hi => by rw [bump_length]; exact hrx i (x1 i hi)) (fun h => by rw [bump_length]; exact kxl h)]
      congr 1
      have := eff_comm (ids1 := idx) (ids2 := idy) (nb1 := nbx) (nb2 := none) (k1 := base + x) (k2 := 0) (H := H) (fun h => ⟨kxl h, fun hin => nox (x2 h) (y1 _ hin)⟩) (fun h => by cases h) (fun _ h => by cases h)
      exact this
  obtain ⟨idx, nbx, x1, x2, rfl, x4⟩ := actD_eff hpure hwx hxc s1.2.1 e1
  obtain ⟨idy, nby, y1, y2, rfl, y4⟩ := actD_eff hpure hwy hyc s2'.2.1 e2
  have kx : nbx.isSome = true → kOf E ox base x H = base + x := fun h => by simp [kOf, x2 h]
  have hxlt : nbx.isSome = true → kOf E ox base x H < H.length := fun h => by grind
  have hlen := eff_length (ids := idx) hxlt
  have ky : nby.isSome = true → ∀ H', kOf E oy base y H' = base + y := fun h H' => by simp [kOf, y2 h]
  -- y first
  have simx : SimAt (refsO E s oy) (eff idx nbx (kOf E ox base x H) H) H := (eff_sim (fun h => ⟨hxlt h, by grind⟩)).symm
  have deady : clsOf E oy = .a → ∃ b, H[base + y]? = some b ∧ (b.live = false ∧ b.row = false) := fun hc =>
    (eff_dead (fun h => ⟨hxlt h, by rw [kx h]; omega⟩)).1 (d2 hc)
  have hylt : clsOf E oy = .a → base + y < H.length := fun hc => by
    grind
  have g3 := y4 H (kOf E oy base y H) (fun hc => by simp [kOf, hc]) simx
  have hylt' : nby.isSome = true → kOf E oy base y H < H.length := fun h => by grind
  refine fin _ s2' ⟨lateD_heap (notin y oy hy hwy) l2, capOK_no hyc hwy⟩ deady g3 ⟨lateD_heap (notin x ox hx hwx) l1, capOK_no hxc hwx⟩ (fun hc => (eff_dead (fun h => ⟨hylt' h, by rw [ky h]; omega⟩)).2 (d1 hc)) ?_
  have simy : SimAt (refsO E s ox) H (eff idy nby (kOf E oy base y H) H) := eff_sim (fun h => ⟨hylt' h, by grind⟩)
  have g5 := x4 _ (kOf E ox base x (eff idy nby (kOf E oy base y H) H)) (fun hc => by simp [kOf, hc]) simy
  rw [g5]
  have hk1 : nbx.isSome = true → kOf E ox base x (eff idy nby (kOf E oy base y H) H) = base + x := fun h => by simp [kOf, x2 h]
  have hkx : eff idx nbx (kOf E ox base x (eff idy nby (kOf E oy base y H) H)) (eff idy nby (kOf E oy base y H) H) = eff idx nbx (kOf E ox base x H) (eff idy nby (kOf E oy base y H) H) := by
    cases nbx with
    | none => rfl
    | some b => rw [hk1 rfl, kx rfl]
  have hky : eff idy nby (kOf E oy base y (eff idx nbx (kOf E ox base x H) H)) (eff idx nbx (kOf E ox base x H) H) = eff idy nby (kOf E oy base y H) (eff idx nbx (kOf E ox base x H) H) := by
    cases nby with
    | none => rfl
    | some b => rw [ky rfl, ky rfl]
  rw [hkx, hky]
  congr 2
  exact eff_comm (fun h => ⟨hxlt h, by grind⟩) (fun h => ⟨hylt' h, by grind⟩) (fun h1 h2 => by grind)

end

end Go.Proofs.YtpikcdlhgiooaaaGreat.Le

/-
  An evaluator for the model's code over pure values: a region that draws its order runs as in its own order.
-/
namespace Go.Proofs.YtpikcdlhgiooaaaGreat.Le
set_option linter.unusedVariables false
open Go.RowKit (Below)

/-! ### masks -/

theorem foldl_bit (acc : List Nat) (j : Nat) : ∀ (es : List Edge) (m : Nat), (es.foldl (fun m e => if Region.binds .any e then m ||| (1 <<< e.on) ||| acc.getD e.on 0 else m) m).testBit j = true ↔
    m.testBit j = true ∨ ∃ e ∈ es, Region.binds .any e = true ∧ (j = e.on ∨ (acc.getD e.on 0).testBit j = true) := by
  intro es
  induction es with
  | nil => intro m; simp
  | cons e es ih =>
    intro m
    rw [List.foldl_cons, ih]
    by_cases hb : Region.binds .any e = true
    · simp only [hb, if_true, Nat.testBit_or, Bool.or_eq_true, Nat.one_shiftLeft, Nat.testBit_two_pow, decide_eq_true_eq, List.mem_cons, exists_eq_or_imp, true_and]
      grind
    simp_all

theorem maskOf_bit (acc : List Nat) (o : Oper) (j : Nat) : (maskOf acc o).testBit j = true ↔ ∃ e ∈ o.after, Region.binds .any e = true ∧ (j = e.on ∨ (acc.getD e.on 0).testBit j = true) := by
  unfold maskOf
  rw [foldl_bit]
  simp

theorem masksD_get : ∀ (os : List Oper) (acc : List Nat) (i : Nat), i < acc.length → (masksD acc os)[i]? = acc[i]? := by
  intro os
  induction os with
  | nil => intro acc i hi; rfl
  | cons o os ih =>
    intro acc i hi
    simp only [masksD]
    grind

theorem masksD_at : ∀ (os : List Oper) (acc : List Nat) (i : Nat) (o : Oper), os[i]? = some o →
    ∃ acc', (masksD acc os)[acc.length + i]? = some (maskOf acc' o) ∧ acc'.length = acc.length + i ∧ ∀ j, j < acc'.length → (masksD acc os)[j]? = acc'[j]? := by
  intro os
  induction os with
  | nil => intro acc i o h; simp at h
  | cons p os ih =>
    intro acc i o h
    cases i with
    | zero =>
      simp at h
      subst h
      refine ⟨acc, ?_, rfl, fun j hj => ?_⟩
      · simp only [masksD]
        rw [masksD_get _ _ _ (by simp)]
        simp
      · simp only [masksD]
        rw [masksD_get _ _ _ (by simp; omega), List.getElem?_append_left hj]
    | succ i =>
      simp at h
      obtain ⟨acc', h1, h2, h3⟩ := ih (acc ++ [maskOf acc p]) i o h
      refine ⟨acc', ?_, by rw [h2]; simp; omega, h3⟩
      simp only [masksD]
      grind

section
variable {E : Env} {ops : Array Oper}

/-- What the static look at a region says. -/
structure DrawFacts (E : Env) (ops : Array Oper) : Prop where
  low : ∀ (i : Nat) (o : Oper), ops[i]? = some o → ∀ e ∈ o.after, Region.binds .any e = true → e.on < i
  bit : ∀ (i : Nat) (o : Oper), ops[i]? = some o → ∀ j, ((masksD [] ops.toList).getD i 0).testBit j = true ↔ ∃ e ∈ o.after, Region.binds .any e = true ∧ (j = e.on ∨ ((masksD [] ops.toList).getD e.on 0).testBit j = true)
  lt : ∀ (i j : Nat), i < ops.size → ((masksD [] ops.toList).getD i 0).testBit j = true → j < i
  pass : ∀ (x y : Nat) (ox oy : Oper), ops[x]? = some ox → ops[y]? = some oy → x < y → ((masksD [] ops.toList).getD y 0).testBit x = true ∨ (mayPass E ops ox oy || (latePass E ops (lates E ops) x ox oy || latePass E ops (lates E ops) y oy ox)) = true

theorem drawOK_facts (h : drawOK E ops = true) : DrawFacts E ops := by
  unfold drawOK at h
  simp only [List.all_eq_true, List.mem_range] at h
  have hlow : ∀ (i : Nat) (o : Oper), ops[i]? = some o → ∀ e ∈ o.after, Region.binds .any e = true → e.on < i := by
    intro i o ho e he
    have := h i (Array.getElem?_eq_some_iff.1 ho).1
    simp only [ho, Bool.and_eq_true, Array.all_eq_true_iff_forall_mem, Bool.or_eq_true, Bool.not_eq_true', decide_eq_true_eq] at this
    intro hb
    rcases this.1 e he with hh | hh
    · rw [hb] at hh; cases hh
    · exact hh
  have hbit : ∀ (i : Nat) (o : Oper), ops[i]? = some o → ∀ j, ((masksD [] ops.toList).getD i 0).testBit j = true ↔ ∃ e ∈ o.after, Region.binds .any e = true ∧ (j = e.on ∨ ((masksD [] ops.toList).getD e.on 0).testBit j = true) := by
    intro i o ho j
    obtain ⟨acc', h1, h2, h3⟩ := masksD_at ops.toList [] i o (by simpa using ho)
    simp only [List.length_nil, Nat.zero_add] at h1 h2
    have hi : (masksD [] ops.toList).getD i 0 = maskOf acc' o := by simp [List.getD, h1]
    rw [hi, maskOf_bit]
    constructor
    · grind
    · grind
  refine ⟨hlow, hbit, ?_, ?_⟩
  · intro i
    induction i using Nat.strongRecOn with
    | _ i ih =>
      intro j hi hj
      have ho : ops[i]? = some ops[i] := by simp [hi]
      grind
  grind

end

/-! ### any order -/

section
variable {call : CallF} {E : Env} {ops : Array Oper} {ms : List Nat} {lt : List (Nat × (Nat ⊕ Nat))} {s0 : List V} {base m : Nat}

theorem stepsR_pull (hl : LenOK call) {i : Nat} {r : St} : ∀ (M1 M2 : List Nat) (st : St), base ≤ st.H.length → (∀ y ∈ M1, ∀ st st1 st2, base ≤ st.H.length → stepR call E ops ms lt s0 base m y st = some st1 → stepR call E ops ms lt s0 base m i st1 = some st2 →
      ∃ st1', stepR call E ops ms lt s0 base m i st = some st1' ∧ stepR call E ops ms lt s0 base m y st1' = some st2) →
    stepsR call E ops ms lt s0 base m (M1 ++ i :: M2) st = some r → ∃ st1, stepR call E ops ms lt s0 base m i st = some st1 ∧ stepsR call E ops ms lt s0 base m (M1 ++ M2) st1 = some r := by
  intro M1
  induction M1 with
  | nil =>
    intro M2 st _ _ h
    simp only [List.nil_append, stepsR] at h
    grind
  | cons y M1 ih =>
    intro M2 st hb hsw h
    simp only [List.cons_append, stepsR] at h
    cases h1 : stepR call E ops ms lt s0 base m y st with
    | none => simp [h1] at h
    | some sa =>
      simp only [h1] at h
      obtain ⟨sb, h2, h3⟩ := ih M2 sa (Nat.le_trans hb (stepR_len hl h1)) (fun z hz => hsw z (List.mem_cons_of_mem _ hz)) h
      obtain ⟨sc, h4, h5⟩ := hsw y (by simp) st sa sb hb h1 h2
      exact ⟨sc, h4, by simp only [List.cons_append, stepsR, h5]; exact h3⟩

theorem stepR_ok {B : Nat} {w0 : Start} {σ : Sg} {P : Program} {st st' : St} {a : Act} {w : World} (hE : EnvOK E) (hP : E.P = P) (hcall : CallOK P E B w0 call) {i : Nat} (h : Rel E B w0 σ st a w) (hs : stepR call E ops ms lt s0 base m i st = some st')
    {K : Act → World → Prop} {Q : Exit → Act → World → Prop} (hn : ∀ a' w' σ', Rel E B w0 σ' st' a' w' → Ext σ w σ' w' → K a' w') : wpOp P ops Q i K a w := by
  have hat : ∃ k, freeB st.H k = true ∧ stepAt call E ops k i st = some st' := by
    unfold stepR at hs
    cases ho : ops[i]? with
    | none =>
      simp only [ho] at hs
      exact ⟨st.H.length, freeB_end _, by unfold stepAt; simp only [ho]; exact hs⟩
    | some o =>
      simp only [ho] at hs
      split at hs
      · split at hs
        · split at hs
          · rename_i b hb
            split at hs
            · cases hs
            · rename_i hl
              exact ⟨base + i, by unfold freeB; simp only [hb]; simpa using hl, hs⟩
          · cases hs
        · exact ⟨st.H.length, freeB_end _, hs⟩
      · cases hs
  obtain ⟨k, hk, hat⟩ := hat
  exact stepAt_ok hE hP hcall hk h hat hn

theorem wpAny_ok {B : Nat} {w0 : Start} {P : Program} {r : St} (hE : EnvOK E) (hP : E.P = P) (hcall : CallOK P E B w0 call) (hpure : CallsOK E call) (hf : DrawFacts E ops) (hm : ∀ (i : Nat) (o : Oper), ops[i]? = some o → clsOf E o = .a → i < m)
    {Q : Exit → Act → World → Prop} : ∀ (fuel : Nat) (M : List Nat) (listed : Array Bool) (st : St) (σ : Sg) (a : Act) (w : World), M.length ≤ fuel → listed.size = ops.size →
    (∀ j, j ∈ M ↔ listed.getD j true = false) → M.Pairwise (· < ·) → (∀ k j, listed.getD k false = true → ((masksD [] ops.toList).getD k 0).testBit j = true → listed.getD j false = true) →
    stepsR call E ops (masksD [] ops.toList) (lates E ops) s0 base m M st = some r → base ≤ st.H.length → Rel E B w0 σ st a w → (∀ a' w' σ', Rel E B w0 σ' r a' w' → Ext σ w σ' w' → Q .normal a' w') → wpAny P .any ops Q fuel listed a w := by
  intro fuel
  induction fuel with
  | zero =>
    intro M listed st σ a w hl hsz hM hsort hdown hs hbl hr hn
    have hnil : M = [] := List.eq_nil_of_length_eq_zero (by omega)
    subst hnil
    simp only [stepsR, Option.some.injEq] at hs
    subst hs
    refine ⟨?_, hn a w σ hr (Ext.refl σ w)⟩
    cases hrd : Region.ready .any ops listed with
    | nil => rfl
    | cons i rest =>
      have hi : i ∈ Region.ready .any ops listed := by rw [hrd]; simp
      have := (hM i).2 (mem_ready.1 hi).1
      cases this
  | succ fuel ih =>
    intro M listed st σ a w hl hsz hM hsort hdown hs hbl hr hn
    have hlist : ∀ j, j < ops.size → j ∉ M → listed.getD j false = true := by
      intro j hj hn
      have : ¬ listed.getD j true = false := fun h => hn ((hM j).2 h)
      have hjl : j < listed.size := by omega
      simp [hjl] at this ⊢
      exact this
    refine ⟨fun hready => ?_, fun i hi => ?_⟩
    · -- nothing is ready: nothing is left
      cases M with
      | nil =>
        simp only [stepsR, Option.some.injEq] at hs
        subst hs
        exact hn a w σ hr (Ext.refl σ w)
      | cons i rest =>
        exfalso
        have hun := (hM i).1 (by simp)
        have hilt : i < ops.size := by
          rcases Nat.lt_or_ge i listed.size with h | h
          · omega
          · simp [Array.getElem?_eq_none h] at hun
        have ho : ops[i]? = some ops[i] := by simp [hilt]
        have : i ∈ Region.ready .any ops listed := mem_ready.2 ⟨hun, _, ho, fun e he hb => by
          have hlt := hf.low i _ ho e he hb
          refine hlist e.on (by omega) (fun hin => ?_)
          rcases List.mem_cons.1 hin with h | h
          · omega
          · have := (List.pairwise_cons.1 hsort).1 _ h
            omega⟩
        grind
    · obtain ⟨hun, oi, hoi, hall⟩ := mem_ready.1 hi
      have hin := (hM i).2 hun
      obtain ⟨M1, M2, rfl⟩ := List.append_of_mem hin
      have hilt : i < ops.size := (Array.getElem?_eq_some_iff.1 hoi).1
      have hM1 : ∀ y ∈ M1, y < i := fun y hy => (List.pairwise_append.1 hsort).2.2 y hy i (by simp)
      have hmask : ∀ j, ((masksD [] ops.toList).getD i 0).testBit j = true → listed.getD j false = true := by
        intro j hj
        obtain ⟨e, he, hb, hh⟩ := (hf.bit i oi hoi j).1 hj
        rcases hh with hh | hh
        · grind
        · grind
      have hunl : ∀ y, listed.getD y true = false → listed.getD y false = false := by
        intro y hy
        rcases Nat.lt_or_ge y listed.size with h | h
        · simp [h] at hy ⊢; exact hy
        · simp [Array.getElem?_eq_none h] at hy
      obtain ⟨st1, h1, h2⟩ := stepsR_pull hpure.len M1 M2 st hbl (fun y hy sa sb sc hba hsa hsb => by
        have hyun : listed.getD y true = false := (hM y).1 (by simp [hy])
        have hylt : y < ops.size := by have := hM1 y hy; omega
        have hoy : ops[y]? = some ops[y] := by simp [hylt]
        have hbit : ((masksD [] ops.toList).getD i 0).testBit y = false := by
          cases hb : ((masksD [] ops.toList).getD i 0).testBit y with
          | false => rfl
          | true => have := hmask y hb; rw [hunl y hyun] at this; cases this
        have hbit' : ((masksD [] ops.toList).getD y 0).testBit i = false := by
          cases hb : ((masksD [] ops.toList).getD y 0).testBit i with
          | false => rfl
          | true => have := hf.lt y i hylt hb; have := hM1 y hy; omega
        have hp := (hf.pass y i _ oi hoy hoi (hM1 y hy)).resolve_left (by rw [hbit]; simp)
        exact stepR_swap hpure hm hoy hoi (by have := hM1 y hy; omega) hp (fun x t h => lates_tgt h) hbit hbit' hba hsa hsb) hs
      refine stepR_ok hE hP hcall hr h1 (fun a1 w1 σ1 hr1 he1 => ?_)
      have hget : ∀ j d, (listed.setIfInBounds i true).getD j d = if j = i then true else listed.getD j d := by
        intro j d
        by_cases hji : j = i
        · subst hji
          have : j < listed.size := by omega
          simp [this]
        · rw [if_neg hji, getD_set_ne d (fun e => hji e.symm)]
      have hnot : i ∉ M1 ++ M2 := by
        intro h
        rcases List.mem_append.1 h with h | h
        · have := hM1 i h; omega
        · have := (List.pairwise_cons.1 (List.pairwise_append.1 hsort).2.1).1 i h; omega
      refine ih (M1 ++ M2) (listed.setIfInBounds i true) st1 σ1 a1 w1 (by simp at hl ⊢; omega) (by simpa using hsz) (fun j => ?_) ?_ (fun k j hk hj => ?_) h2 (Nat.le_trans hbl (stepR_len hpure.len h1)) hr1 (fun a' w' σ' hr' he' => hn a' w' σ' hr' (he1.trans he'))
      · rw [hget]
        by_cases hji : j = i
        · grind
        · rw [if_neg hji, ← hM j]
          simp [hji]
      · grind
      · rw [hget] at hk ⊢
        by_cases hji : j = i
        · rw [if_pos hji]
        · rw [if_neg hji]
          by_cases hki : k = i
          · grind
          grind

/-- Places are kept at the end of the boxes. -/
theorem Inv.reserve {B : Nat} {w0 : Start} {σ : Sg} {H : Heap} {w : World} (h : Inv B w0 σ H w) (n : Nat) : Inv B w0 σ (H ++ List.replicate n deadBox) w := by
  have hold : ∀ (i : Nat) (b : Box), (H ++ List.replicate n deadBox)[i]? = some b → b.live = true → H[i]? = some b := by
    intro i b hb hl
    rw [List.getElem?_append] at hb
    split at hb
    · exact hb
    · have := (List.mem_replicate.1 (List.mem_of_getElem? hb)).2
      subst this
      cases hl
  refine ⟨h.below, h.size, fun id L hL => ?_, fun i b hb hl => h.boxes i b (hold i b hb hl) hl, fun i j b1 b2 L1 L2 g h1 h2 l1 l2 => h.apart i j b1 b2 L1 L2 g (hold i b1 h1 l1) (hold j b2 h2 l2) l1 l2, h.cells,
    fun b c hc i bx L hb hl => h.floor b c hc i bx L (hold i bx hb hl) hl, fun i b hb hl => h.low i b (hold i b hb hl) hl, h.old, h.kept, h.maps.step (Ext.refl σ w) rfl (fun i b hm => ⟨fun hb => ?_, fun hb => ?_⟩) (Nat.le_refl _) fun _ _ _ => rfl⟩
  · obtain ⟨b, h1, h2⟩ := h.dom id L hL
    grind
  · rw [List.getElem?_append] at hb
    split at hb
    · exact hb
    · have := (List.mem_replicate.1 (List.mem_of_getElem? hb)).2
      subst this
      cases hm
  · rw [List.getElem?_append_left (List.getElem?_eq_some_iff.1 hb).1]
    exact hb

theorem draw_ok {B : Nat} {w0 : Start} {σ : Sg} {P : Program} {st st' : St} {a : Act} {w : World} (hE : EnvOK E) (hP : E.P = P) (hmix : P.follows .mixedOrders = true) (hcall : CallOK P E B w0 call) (hpure : CallsOK E call) (hd : drawOK E ops = true)
    (h : Rel E B w0 σ st a w) (hs : drawD call E ops st = some st') {id : Nat} {Q : Exit → Act → World → Prop} (hn : ∀ a' w' σ', Rel E B w0 σ' st' a' w' → Ext σ w σ' w' → Q .normal a' w') : (Code.region id ops true).wp P Q a w := by
  have hg : w.grownBy { w with drawn := w.drawn + 1 } none := ⟨rfl, rfl, rfl, Nat.le_refl _, fun _ _ _ => rfl⟩
  obtain ⟨hI, hEx⟩ := h.inv.grown hg
  refine wp_region_any hmix ?_
  unfold drawD at hs
  refine wpAny_ok hE hP hcall hpure (drawOK_facts hd) (m := if ops.any (fun o => decide (clsOf E o = .a)) then ops.size else 0) (fun i o ho hc => ?_) ops.size (List.range ops.size) _ _ σ a _ (by simp) (by simp) (fun j => ?_) List.pairwise_lt_range (fun k j hk => ?_) hs (by simp)
    ⟨hI.reserve _, h.glob.ext hEx, h.slots.ext hEx, h.calm⟩ (fun a' w' σ' hr he => hn a' w' σ' hr (hEx.trans he))
  · grind
  · rw [List.mem_range]
    rcases Nat.lt_or_ge j ops.size with hj | hj
    · simp [hj]
    simp_all
  · exfalso
    rcases Nat.lt_or_ge k ops.size with hj | hj
    · simp [hj] at hk
    · simp [hj] at hk

end

end Go.Proofs.YtpikcdlhgiooaaaGreat.Le

/-
  An evaluator for the model's code over pure values: code, loops, bodies and calls.
-/
namespace Go.Proofs.YtpikcdlhgiooaaaGreat.Le
set_option linter.unusedVariables false
open Go.RowKit (Below)

def Ex.out : Ex → Exit
  | .normal => .normal
  | .ret => .ret
  | .exit id => .exit id

def LoopOK (P : Program) (E : Env) (B : Nat) (w0 : Start) (f : FuncId) (lp : Code → St → Option (Ex × St)) : Prop :=
  ∀ b st ex st', calmC E f b = true → lp b st = some (ex, st') → ∀ (Q : Exit → Act → World → Prop) σ a w, Rel E B w0 σ st a w →
    (∀ a' w' σ', Rel E B w0 σ' st' a' w' → Ext σ w σ' w' → Q ex.out a' w') → (Code.loop b).wp P Q a w

section
variable {P : Program} {E : Env} {B : Nat} {w0 : Start} {call : CallF} {f : FuncId}

theorem code_ok (hE : EnvOK E) (hP : E.P = P) (hcall : CallOK P E B w0 call) (hpure : CallsOK E call) {lp : Code → St → Option (Ex × St)} (hlp : LoopOK P E B w0 f lp) :
    ∀ (c : Code) (st : St) (ex : Ex) (st' : St), calmC E f c = true → codeD call lp E f c st = some (ex, st') → ∀ (Q : Exit → Act → World → Prop) (σ : Sg) (a : Act) (w : World), Rel E B w0 σ st a w →
      (∀ a' w' σ', Rel E B w0 σ' st' a' w' → Ext σ w σ' w' → Q ex.out a' w') → c.wp P Q a w := by
  intro c
  induction c with
  | skip =>
    intro st ex st' hc h Q σ a w hr hn
    simp only [codeD, Option.some.injEq, Prod.mk.injEq] at h
    obtain ⟨rfl, rfl⟩ := h
    exact wp_skip (hn a w σ hr (Ext.refl σ w))
  | region id ops draw =>
    intro st ex st' hc h Q σ a w hr hn
    cases draw with
    | false =>
      simp only [codeD] at h
      cases hs : opsD call E ops (List.range ops.size) st with
      | none => simp [hs] at h
      | some r =>
        simp only [hs, Option.map_some, Option.some.injEq, Prod.mk.injEq] at h
        obtain ⟨rfl, rfl⟩ := h
        exact wp_region (opsD_ok hE hP hcall _ st σ a w hr hs hn)
    | true =>
      simp only [codeD] at h
      split at h
      · rename_i hcalm
        cases hs : drawD call E ops st with
        | none => simp [hs] at h
        | some r =>
          simp only [hs, Option.map_some, Option.some.injEq, Prod.mk.injEq] at h
          obtain ⟨rfl, rfl⟩ := h
          refine draw_ok hE hP (by rw [← hP]; exact hE.mix) hcall hpure ?_ hr hs hn
          simpa [calmC, hcalm] using hc
      · cases h
  | seq x y ihx ihy =>
    intro st ex st' hc h Q σ a w hr hn
    simp only [calmC, Bool.and_eq_true] at hc
    simp only [codeD] at h
    split at h
    · rename_i st1 h1
      exact wp_seq (ihx st .normal st1 hc.1 h1 _ σ a w hr (fun a1 w1 σ1 hr1 he1 => ihy st1 ex st' hc.2 h Q σ1 a1 w1 hr1 (fun a' w' σ' hr' he' => hn a' w' σ' hr' (he1.trans he'))))
    · rename_i hne
      refine wp_seq (ihx st ex st' hc.1 h _ σ a w hr (fun a1 w1 σ1 hr1 he1 => ?_))
      have := hn a1 w1 σ1 hr1 he1
      cases ex with
      | normal => exact absurd h (hne _)
      | ret => exact this
      | exit id => exact this
  | cond c x y ihx ihy =>
    intro st ex st' hc h Q σ a w hr hn
    simp only [calmC, Bool.and_eq_true] at hc
    simp only [codeD] at h
    split at h
    · rename_i t ht
      have hv := ev_reps (a := a) hr.glob hr.slots c
      rw [ht] at hv
      have hb : a.eval c = .bool t := by generalize a.eval c = v at hv; cases hv; rfl
      refine wp_cond hb ?_
      grind
    · cases h
  | block id b ih =>
    intro st ex st' hc h Q σ a w hr hn
    simp only [calmC] at hc
    simp only [codeD] at h
    split at h
    · rename_i i st1 h1
      refine wp_block (ih st (.exit i) st1 hc h1 _ σ a w hr (fun a1 w1 σ1 hr1 he1 => ?_))
      simp only [Ex.out, Exit.inBlock]
      split at h
      · rename_i hi
        cases h
        rw [if_pos hi]
        exact hn a1 w1 σ1 hr1 he1
      · rename_i hi
        cases h
        rw [if_neg hi]
        exact hn a1 w1 σ1 hr1 he1
    · rename_i hne
      refine wp_block (ih st ex st' hc h _ σ a w hr (fun a1 w1 σ1 hr1 he1 => ?_))
      have := hn a1 w1 σ1 hr1 he1
      cases ex with
      | normal => exact this
      | ret => exact this
      | exit i => simp_all
  | loop b ih =>
    intro st ex st' hc h Q σ a w hr hn
    exact hlp b st ex st' hc h Q σ a w hr hn
  | scope b ih =>
    intro st ex st' hc h Q σ a w hr hn
    simp only [calmC] at hc
    simp only [codeD] at h
    refine wp_scope_straight (ih st ex st' hc h _ σ a w hr (fun a1 w1 σ1 hr1 he1 => ?_))
    have := hn a1 w1 σ1 hr1 he1
    cases ex with
    | normal => exact this
    | ret => exact this
    | exit i => exact this
  | label l =>
    intro st ex st' hc h Q σ a w hr hn
    simp only [codeD, Option.some.injEq, Prod.mk.injEq] at h
    obtain ⟨rfl, rfl⟩ := h
    exact wp_label (hn a w σ hr (Ext.refl σ w))
  | exit id =>
    intro st ex st' hc h Q σ a w hr hn
    simp only [codeD, Option.some.injEq, Prod.mk.injEq] at h
    obtain ⟨rfl, rfl⟩ := h
    exact wp_exit (hn a w σ hr (Ext.refl σ w))
  | ret =>
    intro st ex st' hc h Q σ a w hr hn
    simp only [codeD, Option.some.injEq, Prod.mk.injEq] at h
    obtain ⟨rfl, rfl⟩ := h
    exact wp_ret (hn a w σ hr (Ext.refl σ w))
  | _ =>
    intro st ex st' hc h
    cases h

theorem loop_ok (hE : EnvOK E) (hP : E.P = P) (hcall : CallOK P E B w0 call) (hpure : CallsOK E call) : ∀ n, LoopOK P E B w0 f (loopD call E f n) := by
  have key : ∀ n, ∀ b st ex st', calmC E f b = true → loopD call E f n b st = some (ex, st') → ∀ (Q : Exit → Act → World → Prop) σ a w, Rel E B w0 σ st a w →
    (∀ a' w' σ', Rel E B w0 σ' st' a' w' → Ext σ w σ' w' → Q ex.out a' w') → Code.rounds P b Q n a w := by
    intro n
    induction n with
    | zero => intro b st ex st' hc h; cases h
    | succ n ih =>
      intro b st ex st' hc h Q σ a w hr hn
      rw [rounds_succ]
      have hlp : LoopOK P E B w0 f (loopD call E f n) := fun b st ex st' hc h Q σ a w hr hn => wp_loop_rounds n (ih b st ex st' hc h Q σ a w hr hn)
      simp only [loopD] at h
      split at h
      · rename_i st1 h1
        exact code_ok hE hP hcall hpure hlp b st .normal st1 hc h1 _ σ a w hr (fun a1 w1 σ1 hr1 he1 => ih b st1 ex st' hc h Q σ1 a1 w1 hr1 (fun a' w' σ' hr' he' => hn a' w' σ' hr' (he1.trans he')))
      · rename_i hne
        refine code_ok hE hP hcall hpure hlp b st ex st' hc h _ σ a w hr (fun a1 w1 σ1 hr1 he1 => ?_)
        have := hn a1 w1 σ1 hr1 he1
        cases ex with
        | normal => exact absurd h (hne _)
        | ret => exact this
        | exit id => exact this
  exact fun n b st ex st' hc h Q σ a w hr hn => wp_loop_rounds n (key n b st ex st' hc h Q σ a w hr hn)

/-! ### results and bodies -/

theorem loadVar_ok {σ : Sg} {H : Heap} {w : World} (hE : EnvOK E) (hP : E.P = P) (hI : Inv B w0 σ H w) {t : TypeId} {x r : V} {v : Value} (hx : Reps σ w [x] [v]) (h : loadD E H t x = some r) :
    ∃ u, (do loadVar t (← asAddr v) : Sem Value).run P w = .ok u w ∧ Reps σ w [r] [u] := by
  obtain ⟨u, hu, hr⟩ := load_ok (P := P) hE hP hI hx h
  refine ⟨u, ?_, hr⟩
  have hv : ∃ A, v = .pointer (some A) := by
    unfold loadD at h
    split at h
    · cases h
    · split at h
      · cases hx; exact ⟨_, rfl⟩
      · cases hx with
        | ptr g _ _ _ h4 _ => exact ⟨_, h4⟩
      · cases h
  obtain ⟨A, rfl⟩ := hv
  rw [← hu]
  simp [Instr.loadAt, asAddr, Instr.sureAddr]

theorem res_ok {σ : Sg} {H : Heap} {w : World} {s : List V} {tmps : Array Value} (hE : EnvOK E) (hP : E.P = P) (hI : Inv B w0 σ H w) (hs : Reps σ w s tmps.toList) : ∀ (rs : List ResultVar) (xs : List V), rs.mapM (resD E H s) = some xs →
    ∃ vs, (rs.mapM (fun (r : ResultVar) => (match r with | .tmp t => pure (tmps.getD t undef) | .cell a t => do loadVar t (← asAddr (tmps.getD a undef)) : Sem Value))).run P w = .ok vs w ∧ Reps σ w xs vs := by
  have hget : ∀ t, Reps σ w [s.getD t .und] [tmps.getD t undef] := fun t => by
    have := getD_reps hs t
    simpa using this
  intro rs
  induction rs with
  | nil =>
    intro xs h
    simp at h
    subst h
    exact ⟨[], rfl, .nil⟩
  | cons r rs ih =>
    intro xs h
    rw [List.mapM_cons] at h
    cases hr : resD E H s r with
    | none => simp [hr] at h
    | some x =>
      cases hrs : rs.mapM (resD E H s) with
      | none => simp [hr, hrs] at h
      | some xs' =>
        simp [hr, hrs] at h
        subst h
        obtain ⟨vs, hv, hx⟩ := ih xs' hrs
        have h1 : ∃ u, ((match r with | .tmp t => pure (tmps.getD t undef) | .cell a t => do loadVar t (← asAddr (tmps.getD a undef)) : Sem Value)).run P w = .ok u w ∧ Reps σ w [x] [u] := by
          cases r with
          | tmp t =>
            simp only [resD, Option.some.injEq] at hr
            subst hr
            simp_all
          | cell a t => exact loadVar_ok hE hP hI (hget a) hr
        obtain ⟨u, hu, hur⟩ := h1
        refine ⟨u :: vs, ?_, Reps.cons_iff.2 ⟨hur, hx⟩⟩
        simp_all

theorem results_ok {σ : Sg} {H : Heap} {w : World} {s : List V} {tmps : Array Value} (hE : EnvOK E) (hP : E.P = P) (hI : Inv B w0 σ H w) (hs : Reps σ w s tmps.toList) {fn : Func} {x : V} (h : resultsD E H s fn.results.toList = some x) :
    ∃ u, (results fn tmps).run P w = .ok u w ∧ Reps σ w [x] [u] := by
  unfold resultsD at h
  cases hm : fn.results.toList.mapM (resD E H s) with
  | none => simp [hm] at h
  | some xs =>
    obtain ⟨vs, hv, hr⟩ := res_ok (P := P) hE hP hI hs _ xs hm
    have hrun : (results fn tmps).run P w = .ok (if h : vs.toArray.size = 1 then vs.toArray[0] else .tuple vs.toArray) w := by
      unfold results
      rw [Sem.run_bind]
      have hm2 : (fn.results.mapM (fun (r : ResultVar) => (match r with | .tmp t => pure (tmps.getD t undef) | .cell a t => do loadVar t (← asAddr (tmps.getD a undef)) : Sem Value))).run P w = .ok vs.toArray w := by
        rw [Array.mapM_eq_mapM_toList, map_eq_pure_bind, Sem.run_bind, hv, Result.andThen_ok]
        rfl
      have := congrArg (fun r => Result.andThen r fun (vs : Array Value) (w' : World) => (pure (if h : vs.size = 1 then vs[0] else .tuple vs) : Sem Value).run P w') hm2
      exact this
    refine ⟨_, hrun, ?_⟩
    rw [hm] at h
    have hlen := hr.length
    split at h
    · rename_i v hh
      cases hh
      simp only [Option.some.injEq] at h
      subst h
      obtain ⟨u, vs', rfl, h1, h2⟩ := hr.cons_left
      simp_all
    · rename_i ys hne hh
      cases hh
      simp only [Option.some.injEq] at h
      subst h
      have : ¬ vs.toArray.size = 1 := by
        intro hh
        simp at hh
        rw [← hlen] at hh
        obtain ⟨y, rfl⟩ := List.length_eq_one_iff.1 hh
        exact hne y rfl
      rw [dif_neg this]
      exact .tup hr .nil
    simp_all

end

end Go.Proofs.YtpikcdlhgiooaaaGreat.Le

