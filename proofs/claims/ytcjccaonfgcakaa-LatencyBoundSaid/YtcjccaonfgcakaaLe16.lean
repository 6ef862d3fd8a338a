/-
  An evaluator for the model's code over pure values: operations, regions, code and calls are sound.
-/
import Derived.Test.YtcjccaonfgcakaaLe15
namespace Go.Proofs.Ytcjccaonfgcakaa.Le
set_option linter.unusedVariables false
open Go.RowKit (Below)

/-- What a call that the evaluator answers comes to. -/
def CallOK (P : Program) (E : Env) (B : Nat) (w0 : Start) (call : CallF) : Prop :=
  ∀ (f : FuncId) (args : List V) (H : Heap) (x : V) (H' : Heap) (σ : Sg) (w : World) (vs : List Value), call f args H = some (x, H') → Inv B w0 σ H w → GlobOK E σ w → Reps σ w args vs →
    (∃ fn, P.funcs[f]? = some fn ∧ fn.body.isNone = false ∧ (fn.name == "runtime.NumGoroutine") = false) ∧
    Calls P f vs.toArray w fun e w' => ∃ u σ', e = .returned u ∧ Inv B w0 σ' H' w' ∧ Ext σ w σ' w' ∧ Reps σ' w' [x] [u]

section
variable {P : Program} {o : Oper} {a : Act} {w : World} {next : Act → World → Prop} {Q : Exit → Act → World → Prop}

theorem wp_value {s : Sem Value} {u : Value} {w' : World} (he : execOp a.eval o = (do let x ← s; pure (Next.value x))) (hr : s.run P w = .ok u w') (hn : next (a.put o.dst u) w') : o.wp P a w next Q := by
  unfold Oper.wp
  rw [he]
  simp only [Sem.run_bind, hr, Result.andThen_ok, Sem.run_pure]
  exact hn

theorem wp_unit {s : Sem Unit} {w' : World} (he : execOp a.eval o = (do s; pure Next.skip)) (hr : s.run P w = .ok () w') (hn : next (a.put o.dst undef) w') : o.wp P a w next Q := by
  unfold Oper.wp
  rw [he]
  simp only [Sem.run_bind, hr, Result.andThen_ok, Sem.run_pure]
  exact hn
end

theorem parts_ev {E : Env} {σ w s} {a : Act} (hg : GlobOK E σ w) (h : Reps σ w s a.tmps.toList) (parts : List (Nat × Operand)) :
    Parts σ w (parts.map fun (i, x) => (i, ev E s x)) (parts.map fun (i, x) => (i, a.eval x)) := by
  induction parts with
  | nil => exact .nil
  | cons p ps ih => exact .cons (ev_reps hg h p.2) ih

theorem optRep_ev {E : Env} {σ w s} {a : Act} (hg : GlobOK E σ w) (h : Reps σ w s a.tmps.toList) (x : Option Operand) : OptRep σ w (x.map (ev E s)) (x.map a.eval) := by
  cases x with
  | none => exact .none
  | some x => exact .some (ev_reps hg h x)

theorem frzT_reps {B w0 σ H w} (h : Inv B w0 σ H w) {x x' : V} {v : Value} (hr : Reps σ w [x] [v]) (hf : frzT H x = some x') (ids : List Nat) (hids : ∀ i ∈ idsT x, i ∈ ids) :
    Reps (σ.freeze H ids) w [x'] [v] := by
  unfold frzT at hf
  split at hf
  · rename_i vs
    cases hr with
    | tup h1 _ =>
      cases hl : frzAll H vs with
      | none => simp [hl] at hf
      | some vs' =>
        simp only [hl, Option.map_some, Option.some.injEq] at hf
        subst hf
        exact .tup (frzAll_reps h h1 hl ids hids) .nil
  · refine frz_reps h hr hf ids (fun i hi => hids i ?_)
    cases x <;> simp_all [idsT]


/-- An operation as the evaluator sees it: when it answers, the operation runs, and leaves what the evaluator says. -/
def Sound (P : Program) (E : Env) (B : Nat) (w0 : Start) (call : CallF) (σ : Sg) (k : Nat) (H : Heap) (w : World) (s : List V) (a : Act) (o : Oper) : Prop :=
  ∀ x H', opD call E k H s o = some (x, H') → ∀ (next : Act → World → Prop) (Q : Exit → Act → World → Prop),
    (∀ u w' σ', Inv B w0 σ' H' w' → Ext σ w σ' w' → Reps σ' w' [x] [u] → next (a.put o.dst u) w') → o.wp P a w next Q

section
variable {E : Env} {B : Nat} {w0 : Start} {σ : Sg} {H : Heap} {w : World} {P : Program} {call : CallF} {s : List V} {a : Act} {o : Oper} {k : Nat}

/-- Operations that read only. -/
theorem sound_read {y : Option V} {m : Sem Value} (hI : Inv B w0 σ H w) (he : execOp a.eval o = (do let x ← m; pure (Next.value x))) (hd : opD call E k H s o = y.map (·, H))
    (h : ∀ x, y = some x → ∃ u, m.run P w = .ok u w ∧ Reps σ w [x] [u]) : Sound P E B w0 call σ k H w s a o := by
  intro x H' ho next Q hn
  rw [hd] at ho
  cases y with
  | none => cases ho
  | some x' =>
    simp only [Option.map_some, Option.some.injEq, Prod.mk.injEq] at ho
    obtain ⟨rfl, rfl⟩ := ho
    obtain ⟨u, hu, hr⟩ := h x' rfl
    exact wp_value he hu (hn _ w σ hI (Ext.refl σ w) hr)

theorem sound_pure {y : V} {u : Value} (hI : Inv B w0 σ H w) (he : execOp a.eval o = pure (Next.value u)) (hd : opD call E k H s o = some (y, H)) (h : Reps σ w [y] [u]) : Sound P E B w0 call σ k H w s a o :=
  sound_read (m := pure u) (y := some y) hI (by rw [he]; rfl) hd (fun x hx => ⟨u, rfl, by cases hx; exact h⟩)

theorem sound_move (hI : Inv B w0 σ H w) (hg : GlobOK E σ w) (hs : Reps σ w s a.tmps.toList) {y : Operand} (hop : o.op = .move y) : Sound P E B w0 call σ k H w s a o :=
  sound_pure hI (u := a.eval y) (y := ev E s y) (by unfold execOp; rw [hop]) (by unfold opD; rw [hop]) (ev_reps hg hs y)

theorem sound_assign (hk0 : freeB H k = true) (hI : Inv B w0 σ H w) (hg : GlobOK E σ w) (hs : Reps σ w s a.tmps.toList) {y : Operand} (hop : o.op = .assign y) : Sound P E B w0 call σ k H w s a o := by
  by_cases hy : y = .const (.slice none 0 0)
  · subst hy
    intro x H' ho next Q hn
    unfold opD at ho
    rw [hop] at ho
    simp only at ho
    split at ho
    · rename_i e sz by' z0 hti
      simp only [Option.some.injEq, Prod.mk.injEq] at ho
      obtain ⟨rfl, rfl⟩ := ho
      obtain ⟨σ', h1, h2, h3⟩ := push_ok (e := e) (esz := (E.size e).getD 0) hI hk0 (grownBy_refl w none) (xs := []) (us := []) .nil (by simp) (by simp) (by simp [flat]) (World.ownsRow_nil w B e _) (by simp [Value.ownBlock]) false (by simp)
      unfold Oper.wp execOp
      rw [hop]
      exact hn _ w σ' h1 h2 h3
    · cases ho
  · refine sound_pure hI (u := a.eval y) (y := ev E s y) (by unfold execOp; rw [hop]) ?_ (ev_reps hg hs y)
    unfold opD
    rw [hop]
    split <;> simp_all

theorem sound_pick (hI : Inv B w0 σ H w) (hg : GlobOK E σ w) (hs : Reps σ w s a.tmps.toList) {c y z : Operand} (hop : o.op = .pick c y z) : Sound P E B w0 call σ k H w s a o := by
  intro x H' ho next Q hn
  unfold opD at ho
  rw [hop] at ho
  simp only at ho
  split at ho
  · rename_i t hc
    simp only [Option.some.injEq, Prod.mk.injEq] at ho
    obtain ⟨rfl, rfl⟩ := ho
    have hcv := ev_reps hg hs c
    rw [hc] at hcv
    have hcb : a.eval c = .bool t := by generalize a.eval c = cv at hcv; cases hcv; rfl
    unfold Oper.wp execOp
    rw [hop]
    simp only [hcb, asBool, Sem.run_bind, Sem.run_pure, Result.andThen_ok]
    refine hn _ w σ hI (Ext.refl σ w) ?_
    cases t
    · exact ev_reps hg hs z
    · exact ev_reps hg hs y
  · cases ho

theorem sound_alloc (hE : EnvOK E) (hP : E.P = P) (hk0 : freeB H k = true) (hI : Inv B w0 σ H w) {t : TypeId} (hop : o.op = .alloc t) : Sound P E B w0 call σ k H w s a o := by
  intro x H' ho next Q hn
  unfold opD at ho
  rw [hop] at ho
  simp only at ho
  split at ho
  · rename_i i hti
    split at ho
    · rename_i z hz
      split at ho
      · rename_i hc
        simp only [Option.some.injEq, Prod.mk.injEq] at ho
        obtain ⟨rfl, rfl⟩ := ho
        obtain ⟨inf, zv, hi, hzv, hsz, hbz, hzr⟩ := zok_some hE hP hti hz σ w
        obtain ⟨w', σ', hrun, h1, h2, h3⟩ := newVar_ok (P := P) hI hk0 t hzr hc.2 hc.1
        refine wp_value (s := Instr.alloc t true (.tuple #[])) (u := .pointer (some ⟨w.heap.size, 0, none⟩)) (w' := w') (by unfold execOp; rw [hop]) ?_ (hn _ w' σ' h1 h2 h3)
        simp [Instr.alloc, zeroValue, typeInfo, hi, hzv, hrun]
      · cases ho
    · cases ho
  · cases ho

theorem sound_box (hk0 : freeB H k = true) (hI : Inv B w0 σ H w) (hg : GlobOK E σ w) (hs : Reps σ w s a.tmps.toList) {t : TypeId} {y : Operand} (hop : o.op = .box t y) : Sound P E B w0 call σ k H w s a o := by
  intro x H' ho next Q hn
  unfold opD at ho
  rw [hop] at ho
  simp only at ho
  split at ho
  · rename_i i hti
    split at ho
    · rename_i hc
      simp only [Option.some.injEq, Prod.mk.injEq] at ho
      obtain ⟨rfl, rfl⟩ := ho
      obtain ⟨w', σ', hrun, h1, h2, h3⟩ := newVar_ok (P := P) hI hk0 t (ev_reps hg hs y) hc.2 hc.1
      refine wp_value (s := Instr.box t (a.eval y)) (u := .pointer (some ⟨w.heap.size, 0, none⟩)) (w' := w') (by unfold execOp; rw [hop]) ?_ (hn _ w' σ' h1 h2 h3)
      simp [Instr.box, hrun]
    · cases ho
  · cases ho

theorem sound_build (hE : EnvOK E) (hP : E.P = P) (hI : Inv B w0 σ H w) (hg : GlobOK E σ w) (hs : Reps σ w s a.tmps.toList) {t : TypeId} {parts : Array (Nat × Operand)} (hop : o.op = .build t parts) : Sound P E B w0 call σ k H w s a o :=
  sound_read (m := Instr.build t (parts.map fun (i, x) => (i, a.eval x))) hI (by unfold execOp; rw [hop]) (by unfold opD; rw [hop])
    (fun x hx => build_ok hE hP (by simpa using parts_ev hg hs parts.toList) hx)

theorem sound_buildSlice (hE : EnvOK E) (hP : E.P = P) (hk0 : freeB H k = true) (hI : Inv B w0 σ H w) (hg : GlobOK E σ w) (hs : Reps σ w s a.tmps.toList) {t : TypeId} {n : Nat} {parts : Array (Nat × Operand)} (hop : o.op = .buildSlice t n parts) : Sound P E B w0 call σ k H w s a o := by
  intro x H' ho next Q hn
  unfold opD at ho
  rw [hop] at ho
  simp only at ho
  obtain ⟨vp, hvp⟩ : ∃ vp : Array (Nat × Value), vp = parts.map (fun (i, x) => (i, a.eval x)) := ⟨_, rfl⟩
  obtain ⟨u, w', σ', hu, h1, h2, h3⟩ := buildSlice_ok (P := P) (vparts := vp) hE hP hI hk0 (by rw [hvp]; simpa using parts_ev hg hs parts.toList) ho
  exact wp_value (s := Instr.buildSlice t n vp) (by unfold execOp; rw [hop, hvp]) hu (hn _ w' σ' h1 h2 h3)

theorem sound_load (hE : EnvOK E) (hP : E.P = P) (hI : Inv B w0 σ H w) (hg : GlobOK E σ w) (hs : Reps σ w s a.tmps.toList) {t : TypeId} {y : Operand} (hop : o.op = .load t y) : Sound P E B w0 call σ k H w s a o :=
  sound_read (m := Instr.loadAt t (a.eval y)) hI (by unfold execOp; rw [hop]) (by unfold opD; rw [hop]) (fun x hx => load_ok hE hP hI (ev_reps hg hs y) hx)

theorem sound_store (hE : EnvOK E) (hP : E.P = P) (hI : Inv B w0 σ H w) (hg : GlobOK E σ w) (hs : Reps σ w s a.tmps.toList) {t : TypeId} {y z : Operand} (hop : o.op = .store t y z) : Sound P E B w0 call σ k H w s a o := by
  intro x H' ho next Q hn
  unfold opD at ho
  rw [hop] at ho
  simp only at ho
  cases hb : storeD E H t (ev E s y) (ev E s z) with
  | none => simp [hb] at ho
  | some H2 =>
    simp only [hb, Option.map_some, Option.some.injEq, Prod.mk.injEq] at ho
    obtain ⟨rfl, rfl⟩ := ho
    obtain ⟨w', σ', hu, h1, h2⟩ := store_ok (P := P) hE hP hI (ev_reps hg hs y) (ev_reps hg hs z) hb
    exact wp_unit (s := Instr.storeAt t (a.eval y) (a.eval z)) (by unfold execOp; rw [hop]) hu (hn _ w' σ' h1 h2 (.no .nil))

theorem sound_nilCheck (hI : Inv B w0 σ H w) (hg : GlobOK E σ w) (hs : Reps σ w s a.tmps.toList) {y : Operand} (hop : o.op = .nilCheck y) : Sound P E B w0 call σ k H w s a o := by
  intro x H' ho next Q hn
  unfold opD at ho
  rw [hop] at ho
  simp only at ho
  split at ho
  · rename_i hnil
    simp only [Option.some.injEq, Prod.mk.injEq] at ho
    obtain ⟨rfl, rfl⟩ := ho
    have hv := ev_reps hg hs y
    have hrun : execOp a.eval o = pure (Next.value (a.eval y)) := by
      unfold execOp
      rw [hop]
      simp only
      generalize ev E s y = ey at hv hnil
      generalize a.eval y = vy at hv
      cases hv with
      | und _ _ => cases hnil
      | no _ => cases hnil
      | @lit v _ _ hl _ => unfold isNilV at hnil; split at hnil <;> simp_all
      | agg _ _ _ => cases hnil
      | tup _ _ => cases hnil
      | slnil _ => rfl
      | slemp a _ => rfl
      | sltnil _ => rfl
      | sltemp a _ => rfl
      | sl _ _ _ _ _ _ _ _ _ _ _ _ => rfl
      | slt _ _ _ _ _ _ _ _ _ _ => rfl
      | lsl _ _ _ _ _ => cases hnil
      | ptr g _ _ _ h4 _ => subst h4; rfl
      | ept _ _ _ _ _ _ _ _ _ _ _ => rfl
      | fn _ _ _ => rfl
      | ifc _ _ => rfl
    unfold Oper.wp
    rw [hrun]
    exact hn _ w σ hI (Ext.refl σ w) hv
  · cases ho

theorem sound_binOp (hE : EnvOK E) (hP : E.P = P) (hI : Inv B w0 σ H w) (hg : GlobOK E σ w) (hs : Reps σ w s a.tmps.toList) {op : BinOp} {t yt : TypeId} {y z : Operand} (hop : o.op = .binOp op t y z yt) : Sound P E B w0 call σ k H w s a o :=
  sound_read (m := (do eqGuard op t y z (a.eval y) (a.eval z); binOp op t (a.eval y) (a.eval z))) hI (by unfold execOp; rw [hop]) (by unfold opD; rw [hop])
    (fun x hx => by
      obtain ⟨u, hu1, hu2, hr⟩ := bin_ok (P := P) hE hP y z (ev_reps hg hs y) (ev_reps hg hs z) hx
      exact ⟨u, by simp only [Sem.run_bind, hu1, Result.andThen_ok, hu2], hr⟩)

theorem sound_unOp (hI : Inv B w0 σ H w) (hg : GlobOK E σ w) (hs : Reps σ w s a.tmps.toList) {op : UnOp} {t : TypeId} {y : Operand} (hop : o.op = .unOp op t y) : Sound P E B w0 call σ k H w s a o :=
  sound_read (m := Op.unary op (a.eval y)) hI (by unfold execOp; rw [hop]) (by unfold opD; rw [hop]) (fun x hx => un_ok (ev_reps hg hs y) hx)

theorem sound_convert (hE : EnvOK E) (hP : E.P = P) (hI : Inv B w0 σ H w) (hg : GlobOK E σ w) (hs : Reps σ w s a.tmps.toList) {src dst : TypeId} {y : Operand} (hop : o.op = .convert src dst y) : Sound P E B w0 call σ k H w s a o := by
  intro x H' ho next Q hn
  unfold opD at ho
  rw [hop] at ho
  simp only at ho
  obtain ⟨rfl, u, hu, hr⟩ := conv_ok (P := P) hE hP hI (ev_reps hg hs y) ho
  exact wp_value (s := convert src dst (a.eval y)) (by unfold execOp; rw [hop]) hu (hn _ w σ hI (Ext.refl σ w) hr)

theorem sound_makeSlice (hE : EnvOK E) (hP : E.P = P) (hk0 : freeB H k = true) (hI : Inv B w0 σ H w) (hg : GlobOK E σ w) (hs : Reps σ w s a.tmps.toList) {t : TypeId} {l c : Operand} (hop : o.op = .makeSlice t l c) : Sound P E B w0 call σ k H w s a o := by
  intro x H' ho next Q hn
  unfold opD at ho
  rw [hop] at ho
  simp only at ho
  split at ho
  · rename_i e sz by' z0 kl n kc m hti hl hc
    split at ho
    · rename_i ei hei
      split at ho
      · rename_i z hz
        split at ho
        · rename_i hcond
          obtain ⟨c1, c2, c3, c4, c5, c6, c7⟩ := hcond
          simp only [Option.some.injEq, Prod.mk.injEq] at ho
          obtain ⟨rfl, rfl⟩ := ho
          obtain ⟨inf, d, hi, hd, q1, q2, q3, q4⟩ := tiOf_some (hE.ti _ _ hti)
          have hd' : P.underlying t = some (.slice e) := by rw [hP] at hd; rw [hd, tyOf_slice q1]
          have hlv := ev_reps hg hs l
          have hcv := ev_reps hg hs c
          rw [hl] at hlv
          rw [hc] at hcv
          have e1 : a.eval l = .int kl n := by generalize a.eval l = q at hlv; cases hlv; rfl
          have e2 : a.eval c = .int kc m := by generalize a.eval c = q at hcv; cases hcv; rfl
          obtain ⟨u, w', σ', hu, h1, h2, h3⟩ := make_ok (P := P) (kl := kl) (kc := kc) hE hP hI hk0 hd' hei hz c1 c2 c3 c4 c5 c6 c7 _
          exact wp_value (s := Instr.makeSlice t (a.eval l) (a.eval c)) (by unfold execOp; rw [hop]) (by rw [e1, e2]; exact hu) (hn _ w' σ' h1 h2 h3)
        · cases ho
      · cases ho
    · cases ho
  · cases ho

theorem sound_slice (hE : EnvOK E) (hP : E.P = P) (hI : Inv B w0 σ H w) (hg : GlobOK E σ w) (hs : Reps σ w s a.tmps.toList) {t : TypeId} {y : Operand} {lo hi mx : Option Operand} (hop : o.op = .slice t y lo hi mx) : Sound P E B w0 call σ k H w s a o := by
  intro x H' ho next Q hn
  unfold opD at ho
  rw [hop] at ho
  simp only at ho
  obtain ⟨u, σ', hu, h1, h2, h3⟩ := slice_ok (P := P) hE hP hI (ev_reps hg hs y) (optRep_ev hg hs lo) (optRep_ev hg hs hi) (optRep_ev hg hs mx) ho
  exact wp_value (s := Instr.sliceAt t (a.eval y) (lo.map a.eval) (hi.map a.eval) (mx.map a.eval)) (by unfold execOp; rw [hop]) hu (hn _ w σ' h1 h2 h3)

theorem sound_fieldAddr (hE : EnvOK E) (hP : E.P = P) (hI : Inv B w0 σ H w) (hg : GlobOK E σ w) (hs : Reps σ w s a.tmps.toList) {t : TypeId} {y : Operand} {f : Nat} (hop : o.op = .fieldAddr t y f) : Sound P E B w0 call σ k H w s a o :=
  sound_read (m := Instr.fieldAt t (a.eval y) f) hI (by unfold execOp; rw [hop]) (by unfold opD; rw [hop]) (fun x hx => fieldAddr_ok hE hP (ev_reps hg hs y) hx)

theorem sound_field (hE : EnvOK E) (hP : E.P = P) (hI : Inv B w0 σ H w) (hg : GlobOK E σ w) (hs : Reps σ w s a.tmps.toList) {t : TypeId} {y : Operand} {f : Nat} (hop : o.op = .field t y f) : Sound P E B w0 call σ k H w s a o :=
  sound_read (m := Instr.field t (a.eval y) f) hI (by unfold execOp; rw [hop]) (by unfold opD; rw [hop]) (fun x hx => field_ok hE hP (ev_reps hg hs y) hx)

theorem sound_indexAddr (hE : EnvOK E) (hP : E.P = P) (hI : Inv B w0 σ H w) (hg : GlobOK E σ w) (hs : Reps σ w s a.tmps.toList) {t : TypeId} {y i : Operand} (hop : o.op = .indexAddr t y i) : Sound P E B w0 call σ k H w s a o :=
  sound_read (m := Instr.indexAt t (a.eval y) (a.eval i)) hI (by unfold execOp; rw [hop]) (by unfold opD; rw [hop]) (fun x hx => indexAddr_ok hE hP hI (ev_reps hg hs y) (ev_reps hg hs i) hx)

theorem sound_index (hE : EnvOK E) (hP : E.P = P) (hI : Inv B w0 σ H w) (hg : GlobOK E σ w) (hs : Reps σ w s a.tmps.toList) {t : TypeId} {y i : Operand} (hop : o.op = .index t y i) : Sound P E B w0 call σ k H w s a o :=
  sound_read (m := Instr.index t (a.eval y) (a.eval i)) hI (by unfold execOp; rw [hop]) (by unfold opD; rw [hop]) (fun x hx => index_ok hE hP (ev_reps hg hs y) (ev_reps hg hs i) hx)

theorem sound_extract (hI : Inv B w0 σ H w) (hg : GlobOK E σ w) (hs : Reps σ w s a.tmps.toList) {y : Operand} {i : Nat} (hop : o.op = .extract y i) : Sound P E B w0 call σ k H w s a o := by
  intro x H' ho next Q hn
  unfold opD at ho
  rw [hop] at ho
  simp only at ho
  split at ho
  · rename_i vs hy
    cases hb : vs[i]? with
    | none => simp [hb] at ho
    | some r =>
      simp only [hb, Option.map_some, Option.some.injEq, Prod.mk.injEq] at ho
      obtain ⟨rfl, rfl⟩ := ho
      have hv := ev_reps hg hs y
      rw [hy] at hv
      have : ∃ ws, a.eval y = .tuple ws.toArray ∧ Reps σ w vs ws := by
        generalize a.eval y = q at hv
        cases hv with
        | tup h1 _ => exact ⟨_, rfl, h1⟩
      obtain ⟨ws, e1, e2⟩ := this
      obtain ⟨u, hu, hr⟩ := e2.get hb
      exact wp_value (s := Instr.extract (a.eval y) i) (by unfold execOp; rw [hop]) (by rw [e1]; simp [Instr.extract, hu]) (hn _ w σ hI (Ext.refl σ w) hr)
  · cases ho

theorem sound_makeFunc (hI : Inv B w0 σ H w) (hg : GlobOK E σ w) (hs : Reps σ w s a.tmps.toList) {f : FuncId} {first caps : Array Operand} (hop : o.op = .makeFunc (.func f) first caps) : Sound P E B w0 call σ k H w s a o :=
  sound_read (m := Instr.makeFunc (.func f) (first.map a.eval) (caps.map a.eval)) (y := some (.fn f (evs E s first) (evs E s caps))) hI (by unfold execOp; rw [hop]) (by unfold opD; rw [hop]; rfl)
    (fun x hx => by
      cases hx
      refine ⟨.func (.func f) (first.map a.eval) (caps.map a.eval), rfl, ?_⟩
      have h1 : (first.toList.map a.eval).toArray = first.map a.eval := by rw [← Array.toList_map]
      have h2 : (caps.toList.map a.eval).toArray = caps.map a.eval := by rw [← Array.toList_map]
      rw [← h1, ← h2]
      exact Reps.fn (f := f) (evs_reps (a := a) hg hs first.toList) (evs_reps (a := a) hg hs caps.toList) (xs := []) (vs := []) .nil)

theorem run_callFunc {P : Program} {f : FuncId} {fn : Func} (h : P.funcs[f]? = some fn) (hn : (fn.name == "runtime.NumGoroutine") = false) (hb : fn.body.isNone = false) (args : Array Value) (w : World) :
    (callFunc f args).run P w = .ok (.enter f args) w := by
  unfold callFunc
  rw [Sem.run_bind]
  have hp : (Go.program).run P w = .ok P w := rfl
  rw [hp]
  simp only [Result.andThen_ok, h, hn, hb, Bool.false_eq_true, if_false]
  rfl

/-- A call of a function value. -/
theorem sound_callValue (hcall : CallOK P E B w0 call) (hI : Inv B w0 σ H w) (hg : GlobOK E σ w) (hs : Reps σ w s a.tmps.toList) {c : Call} {f : Operand} (hop : o.op = .call c) (hc : c.callee = .value f) : Sound P E B w0 call σ k H w s a o := by
  intro x H' ho next Q hn
  unfold opD at ho
  rw [hop] at ho
  simp only [hc] at ho
  split at ho
  · rename_i g first caps hf
    have hv := ev_reps hg hs f
    rw [hf] at hv
    have : ∃ us ws, a.eval f = .func (.func g) us.toArray ws.toArray ∧ Reps σ w first us ∧ Reps σ w caps ws := by
      generalize a.eval f = q at hv
      cases hv with
      | fn h1 h2 _ => exact ⟨_, _, rfl, h1, h2⟩
    obtain ⟨us, ws, e1, r1, r2⟩ := this
    have r3 := evs_reps (a := a) hg hs c.args.toList
    obtain ⟨⟨fn, hfn, hbody, hname⟩, hcalls⟩ := hcall g _ H x H' σ w _ ho hI hg ((r1.append r3).append r2)
    have hrun : (execOp a.eval o).run P w = .ok (.enter g (us ++ c.args.toList.map a.eval ++ ws).toArray) w := by
      have hca : us.toArray ++ c.args.map a.eval ++ ws.toArray = (us ++ c.args.toList.map a.eval ++ ws).toArray := by
        rw [← Array.toList_map]; simp
      have he : execOp a.eval o = callFunc g (us.toArray ++ c.args.map a.eval ++ ws.toArray) := by
        unfold execOp
        rw [hop]
        simp [resolve, hc, e1, Deferred.ofValue, invoke]
      rw [he, hca]
      exact run_callFunc hfn hname hbody _ w
    unfold Oper.wp
    rw [hrun, Oper.upon_enter]
    refine hcalls.mono ?_
    rintro e w' ⟨u, σ', rfl, h1, h2, h3⟩
    exact hn _ w' σ' h1 h2 h3
  · cases ho

theorem lenOf_max (h : Inv B w0 σ H w) {x : V} {v : Value} {n : Nat} (hr : Reps σ w [x] [v]) (hl : lenOf H x = some n) : n ≤ maxLen := by
  unfold lenOf at hl
  split at hl
  · simp only [Option.some.injEq] at hl
    subst hl
    cases hr with
    | slnil _ => exact Nat.zero_le _
    | slemp a _ => exact Nat.zero_le _
    | sl b o c e k0 k1 k2 k3 k4 k5 k6 k7 => exact Nat.le_trans k4 k5
  · simp only [Option.some.injEq] at hl
    subst hl
    cases hr with
    | sltnil _ => exact Nat.zero_le _
    | sltemp a _ => exact Nat.zero_le _
    | slt b o e k0 k1 k2 k3 k4 k5 k6 => exact k4
  · rename_i id off len tot
    split at hl
    · rename_i b hb
      simp only [Option.some.injEq] at hl
      subst hl
      obtain ⟨L, us, m, hxl, hol, hs, hview⟩ := lsl_view h hr hb
      rcases hview with ⟨hv, hvv, ho, hl, ht⟩ | ⟨g, cap, k, hv, hvv, hle, hmx, hk1, hk2⟩
      · omega
      · omega
    · cases hl
  · rename_i s
    simp only [Option.some.injEq] at hl
    subst hl
    cases hr with
    | lit hlf _ => simpa [leaf] using hlf
  · cases hl

theorem sound_mm (isMax : Bool) {b : Builtin} (hI : Inv B w0 σ H w) {c : Call} (hop : o.op = .call c) (hc : c.callee = .builtin b) {xs : List V} {vs : List Value} (hr : Reps σ w xs vs) (hargs : c.args.map a.eval = vs.toArray)
    (hb : b = if isMax then .max else .min) {x : V} {H' : Heap} (hm : (minmax isMax xs).map (·, H) = some (x, H')) {next : Act → World → Prop} {Q : Exit → Act → World → Prop}
    (hn : ∀ u w' σ', Inv B w0 σ' H' w' → Ext σ w σ' w' → Reps σ' w' [x] [u] → next (a.put o.dst u) w') : o.wp P a w next Q := by
  cases hm' : minmax isMax xs with
  | none => simp [hm'] at hm
  | some y =>
    simp only [hm', Option.map_some, Option.some.injEq, Prod.mk.injEq] at hm
    obtain ⟨rfl, rfl⟩ := hm
    unfold minmax at hm'
    split at hm'
    · rename_i k n rest
      obtain ⟨v, vs', rfl, h1, h2⟩ := hr.cons_left
      have hlf : leaf (.int k n) = true ∧ v = .int k n := by cases h1 with | lit l _ => exact ⟨l, rfl⟩
      obtain ⟨hlf, rfl⟩ := hlf
      obtain ⟨u, hu, hru⟩ := mm_ok (P := P) isMax h2 hlf hm'
      cases isMax
      · simp only [Bool.false_eq_true, if_false] at hb hu
        subst hb
        exact wp_value (s := Builtin.min_ c.argTypes o.type (Value.int k n :: vs').toArray) (by unfold execOp; rw [hop]; simp only [resolve, hc, hargs]; rfl) (by simpa [Builtin.min_] using hu) (hn _ w σ hI (Ext.refl σ w) hru)
      · simp only [if_true] at hb hu
        subst hb
        exact wp_value (s := Builtin.max_ c.argTypes o.type (Value.int k n :: vs').toArray) (by unfold execOp; rw [hop]; simp only [resolve, hc, hargs]; rfl) (by simpa [Builtin.max_] using hu) (hn _ w σ hI (Ext.refl σ w) hru)
    · cases hm'

theorem sound_callBuiltin (hE : EnvOK E) (hP : E.P = P) (hk0 : freeB H k = true) (hI : Inv B w0 σ H w) (hg : GlobOK E σ w) (hs : Reps σ w s a.tmps.toList) {c : Call} {b : Builtin} (hop : o.op = .call c) (hc : c.callee = .builtin b) : Sound P E B w0 call σ k H w s a o := by
  intro x H' ho next Q hn
  unfold opD at ho
  rw [hop] at ho
  simp only [hc] at ho
  have hr := evs_reps (a := a) hg hs c.args.toList
  have hargs : c.args.map a.eval = (c.args.toList.map a.eval).toArray := by rw [← Array.toList_map]
  unfold evs at ho
  generalize c.args.toList.map (ev E s) = xs at ho hr
  generalize hvs : c.args.toList.map a.eval = vs at hr hargs
  generalize htys : c.argTypes.toList = tys at ho
  have htys' : c.argTypes = tys.toArray := by rw [← htys]
  unfold builtinD at ho
  split at ho
  · rename_i x0 t
    obtain ⟨v, vs', rfl, h1, h2⟩ := hr.cons_left
    cases h2.nil_left
    split at ho
    · rename_i hfit
      cases hl : lenOf H x0 with
      | none => simp [hl] at ho
      | some n =>
        simp only [hl] at ho
        cases ho
        have hlen : (Builtin.len_ #[t] o.type #[v]).run P w = .ok (.int .i64 n) w := by
          unfold lenFits at hfit
          split at hfit
          · rename_i st
            have := hE.isStr _ hfit
            rw [hP] at this
            exact len_ok hI h1 hl this (.inr rfl) ⟨fun ⟨e, he⟩ => (by cases he), fun hh => absurd rfl (hh st)⟩
          · rename_i hne
            split at hfit
            · rename_i e sz by' z0 hti
              obtain ⟨inf, d, hi, hd, q1, q2, q3, q4⟩ := tiOf_some (hE.ti _ _ hti)
              rw [hP] at hd
              exact len_ok hI h1 hl hd (.inl ⟨e, tyOf_slice q1⟩) ⟨fun _ => hne, fun _ => ⟨e, tyOf_slice q1⟩⟩
            · cases hfit
        have hbd := hlen
        have hlf : leaf (.int .i64 (n : Int)) = true := by
          have := lenOf_max hI h1 hl
          have : (Lit.int .i64 (n : Int)).wf = true := by
            simp [Lit.wf, IntKind.min, IntKind.max, IntKind.signed, IntKind.bits, maxLen] at this ⊢
            omega
          simpa [leaf] using this
        exact wp_value (s := Builtin.len_ #[t] o.type #[v]) (by unfold execOp; rw [hop]; simp only [resolve, hc, hargs, htys']; rfl) hlen (hn _ w σ hI (Ext.refl σ w) (.lit hlf .nil))
    · cases ho
  · rename_i s0 x0 t u
    obtain ⟨v, vs', rfl, h1, h2⟩ := hr.cons_left
    obtain ⟨v2, vs2, rfl, h3, h4⟩ := h2.cons_left
    cases h4.nil_left
    obtain ⟨u', w', σ', hu, i1, i2, i3⟩ := append_ok (P := P) hE hP hI hk0 o.type h1 h3 ho
    exact wp_value (s := Builtin.append_ #[t, u] o.type #[v, v2]) (by unfold execOp; rw [hop]; simp only [resolve, hc, hargs, htys']; rfl) hu (hn _ w' σ' i1 i2 i3)
  · rename_i tys0
    exact sound_mm false hI hop hc hr hargs rfl (by simpa using ho) hn
  · exact sound_mm true hI hop hc hr hargs rfl (by simpa using ho) hn
  · cases ho

end

theorem op_sound {E B w0 σ H w} {P : Program} (hE : EnvOK E) (hP : E.P = P) {call : CallF} (hcall : CallOK P E B w0 call) (hI : Inv B w0 σ H w) (hg : GlobOK E σ w) {k : Nat} (hk0 : freeB H k = true) {s : List V} {a : Act} (hs : Reps σ w s a.tmps.toList)
    (o : Oper) : Sound P E B w0 call σ k H w s a o := by
  cases hop : o.op with
  | move y => exact sound_move hI hg hs hop
  | assign y => exact sound_assign hk0 hI hg hs hop
  | pick c y z => exact sound_pick hI hg hs hop
  | alloc t => exact sound_alloc hE hP hk0 hI hop
  | box t y => exact sound_box hk0 hI hg hs hop
  | build t parts => exact sound_build hE hP hI hg hs hop
  | buildSlice t n parts => exact sound_buildSlice hE hP hk0 hI hg hs hop
  | load t y => exact sound_load hE hP hI hg hs hop
  | store t y z => exact sound_store hE hP hI hg hs hop
  | nilCheck y => exact sound_nilCheck hI hg hs hop
  | binOp op t y z yt => exact sound_binOp hE hP hI hg hs hop
  | unOp op t y => exact sound_unOp hI hg hs hop
  | convert src dst y => exact sound_convert hE hP hI hg hs hop
  | makeSlice t l c => exact sound_makeSlice hE hP hk0 hI hg hs hop
  | slice t y lo hi mx => exact sound_slice hE hP hI hg hs hop
  | fieldAddr t y f => exact sound_fieldAddr hE hP hI hg hs hop
  | field t y f => exact sound_field hE hP hI hg hs hop
  | indexAddr t y i => exact sound_indexAddr hE hP hI hg hs hop
  | index t y i => exact sound_index hE hP hI hg hs hop
  | extract y i => exact sound_extract hI hg hs hop
  | makeFunc fn first caps =>
    cases fn with
    | func f => exact sound_makeFunc hI hg hs hop
    | _ => intro x H' ho; unfold opD at ho; rw [hop] at ho; cases ho
  | call c =>
    cases hc : c.callee with
    | value f => exact sound_callValue hcall hI hg hs hop hc
    | builtin b => exact sound_callBuiltin hE hP hk0 hI hg hs hop hc
    | _ => intro x H' ho; unfold opD at ho; rw [hop] at ho; simp only [hc] at ho; cases ho
  | _ => intro x H' ho; unfold opD at ho; rw [hop] at ho; cases ho

end Go.Proofs.Ytcjccaonfgcakaa.Le
