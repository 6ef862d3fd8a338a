/-
  An evaluator for the model's code over pure values: operands, reading and writing memory.
-/
import Derived.Test.YtcjccaonfgcakaaLe5
namespace Go.Proofs.Ytcjccaonfgcakaa.Le
set_option linter.unusedVariables false
open Go.RowKit (Below)

structure EnvOK (E : Env) : Prop where
  ti : ∀ t i, E.ti t = some i → tiOf E.P t = some i
  func : ∀ f fn, E.func f = some fn → E.P.funcs[f]? = some fn ∧ (fn.name == "runtime.NumGoroutine") = false
  mix : E.P.follows .mixedOrders = true
  calm : ∀ f fn c, E.func f = some fn → fn.body = some c → calmC E f c = true
  kind : ∀ t k, E.kind t = some k → E.P.underlying t = some (.int k)
  isStr : ∀ t, E.isStr t = true → E.P.underlying t = some .string
  isBool : ∀ t, E.isBool t = true → E.P.underlying t = some .bool
  flat : ∀ t ks, E.flat t = some ks → flatOf E.P t = some ks
  isBytes : ∀ t, E.isBytes t = true → ∃ e, E.P.underlying t = some (.slice e) ∧ E.P.underlying e = some (.int .u8)

def GlobOK (E : Env) (σ : Sg) (w : World) : Prop := ∀ g r, E.glob g = some r → Reps σ w [.ept r.length [.agg r] 0 0] [.pointer (some ⟨g, 0, none⟩)]
theorem GlobOK.ext {E σ w σ' w'} (h : GlobOK E σ w) (e : Ext σ w σ' w') : GlobOK E σ' w' := fun g r hg => (h g r hg).ext e

/-! ### constants and operands -/

theorem ofCell_reps (σ : Sg) (w : World) (v : Value) (h : cellOk v = true) : Reps σ w [ofCell v] [v] ∧ v.oneCell' = true := by
  unfold ofCell
  split
  · exact ⟨.slnil .nil, rfl⟩
  · rename_i hne
    have hl : leaf v = true := by
      unfold cellOk at h
      split at h
      · exact absurd rfl hne
      · exact h
    rw [if_pos hl]
    exact ⟨.lit hl .nil, by cases v <;> simp_all [leaf, Value.oneCell']⟩

theorem ofCells_reps (σ : Sg) (w : World) (vs : List Value) (h : vs.all cellOk = true) : Reps σ w (vs.map ofCell) vs ∧ ∀ u ∈ vs, u.oneCell' = true := by
  induction vs with
  | nil => exact ⟨.nil, by simp⟩
  | cons v vs ih =>
    simp only [List.all_cons, Bool.and_eq_true] at h
    obtain ⟨h1, h2⟩ := ofCell_reps σ w v h.1
    obtain ⟨h3, h4⟩ := ih h.2
    exact ⟨Reps.cons_iff.2 ⟨h1, h3⟩, by simpa using ⟨h2, h4⟩⟩

theorem ofConst_reps (σ : Sg) (w : World) (v : Value) : Reps σ w [ofConst v] [v] := by
  have hcell : ∀ u : Value, Reps σ w [if cellOk u then ofCell u else .und] [u] := by
    intro u
    split
    · rename_i h; exact (ofCell_reps σ w u h).1
    · exact .und _ .nil
  cases v with
  | agg cs =>
    simp only [ofConst]
    split
    · rename_i h
      obtain ⟨h1, h2⟩ := ofCells_reps σ w cs.toList h
      have := Reps.agg h1 h2 (xs := []) (vs := []) .nil
      simpa using this
    · exact .und _ .nil
  | tuple vs =>
    simp only [ofConst]
    split
    · rename_i h
      have : vs = #[] := by simpa using h
      subst this
      exact .no .nil
    · exact .und _ .nil
  | bool b => exact hcell (.bool b)
  | int k n => exact hcell (.int k n)
  | float k b => exact hcell (.float k b)
  | complex k a b => exact hcell (.complex k a b)
  | string s => exact hcell (.string s)
  | pointer a => exact hcell (.pointer a)
  | slice a n c => exact hcell (.slice a n c)
  | map r => exact hcell (.map r)
  | chan r => exact hcell (.chan r)
  | func f a b => exact hcell (.func f a b)
  | nilFunc => exact hcell .nilFunc
  | iface t v => exact hcell (.iface t v)
  | nilIface => exact hcell .nilIface

theorem getD_reps {σ w s vs} (h : Reps σ w s vs) (t : Nat) : Reps σ w [s.getD t .und] [vs.getD t undef] := by
  cases hs : s[t]? with
  | none => simp only [List.getD, hs, Option.getD_none]; exact .und _ .nil
  | some x =>
    obtain ⟨v, hv, hr⟩ := h.get hs
    simp only [List.getD, hs, hv, Option.getD_some]
    exact hr

theorem ev_reps {E σ w s} {a : Act} (hg : GlobOK E σ w) (h : Reps σ w s a.tmps.toList) (x : Operand) : Reps σ w [ev E s x] [a.eval x] := by
  cases x with
  | tmp t =>
    have := getD_reps h t
    simpa [ev, Act.eval, Array.getD_eq_getD_getElem?, List.getD_eq_getElem?_getD] using this
  | const v => exact ofConst_reps σ w v
  | func f => exact .fn .nil .nil .nil
  | global g =>
    simp only [ev, Act.eval]
    cases hh : E.glob g with
    | none => exact .und _ .nil
    | some r => exact hg g r hh

theorem evs_reps {E σ w s} {a : Act} (hg : GlobOK E σ w) (h : Reps σ w s a.tmps.toList) (xs : List Operand) : Reps σ w (xs.map (ev E s)) (xs.map a.eval) := by
  induction xs with
  | nil => exact .nil
  | cons x xs ih => exact Reps.cons_iff.2 ⟨ev_reps hg h x, ih⟩

/-! ### types -/

theorem tiOf_some {P : Program} {t : TypeId} {i : TI} (h : tiOf P t = some i) : ∃ inf d, P.info? t = some inf ∧ P.underlying t = some d ∧ i.ty = tyOf d ∧ i.size = inf.size ∧ i.bytes = inf.bytes ∧ i.zero = inf.zero.map ofConst := by
  unfold tiOf at h
  split at h
  · rename_i inf d h1 h2
    simp only [Option.some.injEq] at h
    subst h
    exact ⟨inf, d, h1, h2, rfl, rfl, rfl, rfl⟩
  · cases h

theorem run_isAgg {P : Program} {t : TypeId} {d : TypeDesc} (w : World) (h : P.underlying t = some d) : (isAgg t).run P w = .ok d.isRow w := by
  unfold isAgg
  rw [Sem.run_bind, run_underlying h w]
  cases d <;> rfl

theorem tyOf_agg {i : TI} {d : TypeDesc} (h : i.ty = tyOf d) : i.isAgg = d.isRow := by
  unfold TI.isAgg
  rw [h]
  cases d <;> rfl

theorem run_sizeOf {P : Program} {t : TypeId} {inf : TypeInfo} (w : World) (h : P.info? t = some inf) : (sizeOf t).run P w = .ok inf.size w := by
  simp [sizeOf, typeInfo, h]

/-! ### reading -/

theorem part_reps {σ w} {cs : List V} {ws : List Value} (h : Reps σ w cs ws) (ho : ∀ u ∈ ws, u.oneCell' = true) {off n : Nat} {ag : Bool} {x' : V} (hp : partOf cs off n ag = some x') :
    (ag = true ∧ off + n ≤ ws.length ∧ Reps σ w [x'] [.agg ((ws.drop off).take n).toArray]) ∨ (ag = false ∧ ∃ u, ws[off]? = some u ∧ Reps σ w [x'] [u]) := by
  unfold partOf at hp
  split at hp
  · rename_i hag
    split at hp
    · rename_i hle
      simp only [Option.some.injEq] at hp
      subst hp
      refine .inl ⟨hag, by rw [← h.length]; exact hle, .agg (reps_sub h off n) ?_ .nil⟩
      intro u hu
      exact ho u (List.mem_of_mem_drop (List.mem_of_mem_take hu))
    · cases hp
  · rename_i hag
    obtain ⟨u, hu, hr⟩ := h.get hp
    exact .inr ⟨by simpa using hag, u, hu, hr⟩

/-- Cells are read out of memory: a part of an element. -/
theorem read_reps {E σ w} {P : Program} (hE : EnvOK E) (hP : E.P = P) {t : TypeId} {ti : TI} (hti : E.ti t = some ti) {xs : List V} {us : List Value} {e b o i off : Nat} {x' : V}
    (h : Reps σ w xs us) (hk : ∀ x ∈ xs, okV x = true) (hs : ∀ u ∈ us, u.cells.size = e) (ho : ∀ u ∈ flat us, u.oneCell' = true)
    (hc : ∀ j u, (flat us)[j]? = some u → w.cell? ⟨b, o + j, none⟩ = some u) (hr : readAt xs i off ti.size ti.isAgg = some x') :
    ∃ u, (loadVar t ⟨b, o + i * e + off, none⟩).run P w = .ok u w ∧ Reps σ w [x'] [u] := by
  unfold readAt at hr
  split at hr
  · rename_i x hx
    obtain ⟨uu, hu, hxr⟩ := h.get hx
    have hok := hk x (List.mem_of_getElem? hx)
    obtain ⟨hcr, hco⟩ := hxr.cells hok
    have hsz : uu.cells.size = e := hs uu (List.mem_of_getElem? hu)
    obtain ⟨inf, d, hi, hd, h1, h2, h3, h4⟩ := tiOf_some (hE.ti t ti hti)
    rw [hP] at hi hd
    have hag := tyOf_agg h1
    have hcell : ∀ j u, uu.cells.toList[j]? = some u → w.cell? ⟨b, o + (i * e + j), none⟩ = some u := by
      intro j u hj
      have hlt : j < e := by
        have := (List.getElem?_eq_some_iff.1 hj).1
        simpa [hsz] using this
      exact hc _ _ (by rw [flat_at hs hu j hlt]; exact hj)
    rcases part_reps hcr hco hr with ⟨ha, hle, hres⟩ | ⟨ha, u, hu', hres⟩
    · refine ⟨_, run_loadVar_mid (P := P) w b (o + i * e + off) t _ d ?_ hd (by rw [← hag]; exact ha) ?_, hres⟩
      · intro j v hv
        have hj : j < ti.size := by
          have := (List.getElem?_eq_some_iff.1 hv).1
          simp at this
          omega
        rw [List.getElem?_take, if_pos hj, List.getElem?_drop] at hv
        have := hcell _ _ hv
        rw [← this]
        congr 2
        omega
      · simp only [hi, Option.map_some, Option.some.injEq]
        simp at hle ⊢
        omega
    · refine ⟨u, ?_, hres⟩
      have hnag : d.isRow = false := by rw [← hag]; exact ha
      have := hcell _ _ hu'
      have hcell' : w.cell? ⟨b, o + i * e + off, none⟩ = some u := by rw [← this]; congr 2; omega
      unfold loadVar
      rw [Sem.run_bind, run_isAgg w hd, hnag]
      simp [load, Sem.run, hcell']
  · cases hr

theorem load_ok {E B w0 σ H w} {P : Program} (hE : EnvOK E) (hP : E.P = P) (h : Inv B w0 σ H w) {t : TypeId} {a x' : V} {av : Value} (ha : Reps σ w [a] [av]) (hl : loadD E H t a = some x') :
    ∃ u, (Instr.loadAt t av).run P w = .ok u w ∧ Reps σ w [x'] [u] := by
  unfold loadD at hl
  split at hl
  · cases hl
  · rename_i ti hti
    split at hl
    · rename_i e xs j off
      cases ha with
      | ept b o e i off k0 k1 k2 k3 k4 _ =>
        rename_i us
        obtain ⟨u, hu, hr⟩ := read_reps hE hP hti (o := o) k0 (fzV_oks k1) k2 k3 (fun j u hj => (k4 j u hj).2) hl
        exact ⟨u, by simp only [Instr.loadAt, Instr.sureAddr, Sem.run_bind, Sem.run_pure, Result.andThen_ok, hu], hr⟩
    · rename_i id j off tot
      split at hl
      · rename_i b hb
        obtain ⟨h1, h2, h3⟩ := boxAt_some hb
        obtain ⟨L, us, m⟩ := h.meet h1 h2
        cases ha with
        | ptr g k1 k2 k3 k4 _ =>
          rename_i L'
          rw [m.box] at k1
          cases k1
          obtain ⟨n, c, hv⟩ := k3 (m.tot.trans h3)
          have hown : L.v.ownBlock = some g := by rw [hv]; rfl
          subst k4
          obtain ⟨u, hu, hr⟩ := read_reps hE hP hti (o := 0) (b := g) m.reps m.oks m.sizes m.ones (fun j u hj => by rw [Nat.zero_add]; exact m.cell hown j u hj) hl
          rw [Nat.zero_add] at hu
          exact ⟨u, by simp only [Instr.loadAt, Instr.sureAddr, Sem.run_bind, Sem.run_pure, Result.andThen_ok, hu], hr⟩
      · cases hl
    · cases hl

end Go.Proofs.Ytcjccaonfgcakaa.Le
