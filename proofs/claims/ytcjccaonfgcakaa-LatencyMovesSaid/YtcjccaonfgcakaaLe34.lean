/-
  From what a law is handed to values: arguments as they lie in memory are values of Lean's types.
-/
import Derived.Test.YtcjccaonfgcakaaLe33
import Derived.OpenShut
namespace Go.Proofs.Ytcjccaonfgcakaa.Le
set_option linter.unusedVariables false
open Go.RowKit (Below)

/-! ### well-typed cells -/

def segsOf (P : Program) : TypeDesc → Option (List (Nat × TypeId))
  | .struct fs => some (fs.toList.map fun f => (f.offset, f.type))
  | .array n e => some ((List.range n).map fun i => (i * P.cellsOf e, e))
  | _ => none

def isRowT (P : Program) (t : TypeId) : Bool := match P.underlying t with | some d => d.isRow | none => false

def HasTy (P : Program) : Nat → TypeId → List V → Prop
  | 0, _, _ => False
  | d + 1, t, cs => match P.underlying t with
    | some .bool => ∃ b, cs = [.lit (.bool b)]
    | some (.int k) => ∃ n, cs = [.lit (.int k n)] ∧ (Lit.int k n).wf = true
    | some .string => ∃ s, cs = [.lit (.string s)] ∧ s.size ≤ maxLen
    | some (.slice e) => ∃ xs, cs = [.sl false (P.cellsOf e) xs] ∧ xs.length ≤ maxLen ∧ ∀ x ∈ xs, (if isRowT P e then ∃ ds, x = .agg ds else x.cells = [x]) ∧ HasTy P d e x.cells
    | some dd => match segsOf P dd with
      | some ss => cs.length = P.cellsOf t ∧ ∀ s ∈ ss, HasTy P d s.2 ((cs.drop s.1).take (P.cellsOf s.2))
      | none => False
    | none => False

def covers (P : Program) : Nat → List (Nat × TypeId) → Nat → Bool
  | off, [], n => off == n
  | off, s :: ss, n => s.1 == off && covers P (off + P.cellsOf s.2) ss n

/-- Types of scalars, rows and slices, laid out without gaps. -/
def plainTy (P : Program) : Nat → TypeId → Bool
  | 0, _ => false
  | d + 1, t => match P.underlying t with
    | some .bool => true
    | some (.int _) => true
    | some .string => true
    | some (.slice e) => plainTy P d e && decide (0 < P.cellsOf e)
    | some dd => match segsOf P dd with
      | some ss => ss.all (fun s => plainTy P d s.2) && covers P 0 ss (P.cellsOf t)
      | none => false
    | none => false

def allFz (w : World) : Nat → Nat → Prop := fun b c => ∃ u, w.cell? ⟨b, c, none⟩ = some u

structure Read (P : Program) (w : World) (d : Nat) (t : TypeId) (cs : List Value) (xs : List V) : Prop where
  reps : Reps (bare (allFz w)) w xs cs
  ty : HasTy P d t xs
  ok : ∀ x ∈ xs, fzV x = true
  one : ∀ u ∈ cs, u.oneCell' = true

theorem covers_le {P : Program} : ∀ {ss : List (Nat × TypeId)} {off n : Nat}, covers P off ss n = true → off ≤ n ∧ ∀ s ∈ ss, off ≤ s.1 ∧ s.1 + P.cellsOf s.2 ≤ n := by
  intro ss
  induction ss with
  | nil => intro off n h; simp only [covers, beq_iff_eq] at h; exact ⟨by omega, by simp⟩
  | cons s ss ih =>
    intro off n h
    simp only [covers, Bool.and_eq_true, beq_iff_eq] at h
    obtain ⟨h1, h2⟩ := h
    obtain ⟨h3, h4⟩ := ih h2
    refine ⟨by omega, fun x hx => ?_⟩
    rcases List.mem_cons.1 hx with rfl | hx
    · omega
    · have := h4 x hx; omega

theorem read_segs {P : Program} {w : World} {d : Nat} {cs : List Value} : ∀ {ss : List (Nat × TypeId)} {off : Nat}, covers P off ss cs.length = true → (∀ s ∈ ss, ∃ xs, Read P w d s.2 ((cs.drop s.1).take (P.cellsOf s.2)) xs) →
    ∃ xs, Reps (bare (allFz w)) w xs (cs.drop off) ∧ (∀ x ∈ xs, fzV x = true) ∧ (∀ u ∈ cs.drop off, u.oneCell' = true) ∧ ∀ s ∈ ss, HasTy P d s.2 ((xs.drop (s.1 - off)).take (P.cellsOf s.2)) := by
  intro ss
  induction ss with
  | nil =>
    intro off hc _
    simp only [covers, beq_iff_eq] at hc
    refine ⟨[], ?_, by simp, ?_, by simp⟩
    · rw [hc, List.drop_length]; exact .nil
    · rw [hc, List.drop_length]; simp
  | cons s ss ih =>
    intro off hc h
    simp only [covers, Bool.and_eq_true, beq_iff_eq] at hc
    obtain ⟨h1, h2⟩ := hc
    obtain ⟨x1, r1⟩ := h s (by simp)
    obtain ⟨x2, q1, q2, q3, q4⟩ := ih h2 (fun s' hs' => h s' (by simp [hs']))
    have hle := (covers_le h2).1
    rw [h1] at r1
    have hlen : x1.length = P.cellsOf s.2 := by
      have := r1.reps.length
      rw [List.length_take, List.length_drop] at this
      omega
    have hcut : cs.drop off = (cs.drop off).take (P.cellsOf s.2) ++ cs.drop (off + P.cellsOf s.2) := by
      rw [← List.drop_drop, List.take_append_drop]
    refine ⟨x1 ++ x2, ?_, ?_, ?_, ?_⟩
    · rw [hcut]; exact r1.reps.append q1
    · intro x hx
      rcases List.mem_append.1 hx with hx | hx
      · exact r1.ok x hx
      · exact q2 x hx
    · intro u hu
      rw [hcut] at hu
      rcases List.mem_append.1 hu with hu | hu
      · exact r1.one u hu
      · exact q3 u hu
    · intro s' hs'
      rcases List.mem_cons.1 hs' with rfl | hs'
      · rw [h1, Nat.sub_self, List.drop_zero, List.take_append_of_le_length (by omega), List.take_of_length_le (by omega)]
        exact r1.ty
      · have hge := ((covers_le h2).2 s' hs').1
        have : s'.1 - off = x1.length + (s'.1 - (off + P.cellsOf s.2)) := by omega
        rw [this, List.drop_append]
        have e1 : x1.drop (x1.length + (s'.1 - (off + P.cellsOf s.2))) = [] := List.drop_eq_nil_of_le (by omega)
        rw [e1, List.nil_append]
        have e2 : x1.length + (s'.1 - (off + P.cellsOf s.2)) - x1.length = s'.1 - (off + P.cellsOf s.2) := by omega
        rw [e2]
        exact q4 s' hs'

theorem flat_rows {us : List Value} {cc : List (List Value)} (h : us.map (fun u => u.cells.toList) = cc) : flat us = cc.flatten := by
  rw [← h]
  simp [flat, List.flatMap_def]

/-- The value of a type's cells. -/
def argV (P : Program) (t : TypeId) (xs : List V) : V := if isRowT P t then .agg xs else xs.headD .no
def argU (P : Program) (t : TypeId) (cs : List Value) : Value := if isRowT P t then .agg cs.toArray else cs.headD undef

theorem HasTy.single {P : Program} {d : Nat} {t : TypeId} {xs : List V} (h : HasTy P d t xs) (hr : isRowT P t = false) : ∃ x, xs = [x] ∧ x.cells = [x] := by
  cases d with
  | zero => exact h.elim
  | succ d =>
    unfold HasTy at h
    unfold isRowT at hr
    split at h
    · obtain ⟨b, rfl⟩ := h; exact ⟨_, rfl, rfl⟩
    · obtain ⟨n, rfl, _⟩ := h; exact ⟨_, rfl, rfl⟩
    · obtain ⟨s, rfl, _⟩ := h; exact ⟨_, rfl, rfl⟩
    · obtain ⟨ys, rfl, _⟩ := h; exact ⟨_, rfl, rfl⟩
    · rename_i dd _ _ _ _ hd
      rw [hd] at hr
      split at h
      · rename_i ss hss
        unfold segsOf at hss
        split at hss
        · simp [TypeDesc.isRow] at hr
        · simp [TypeDesc.isRow] at hr
        · cases hss
      · exact h.elim
    · exact h.elim

theorem Read.arg {P : Program} {w : World} {d : Nat} {t : TypeId} {cs : List Value} {xs : List V} (h : Read P w d t cs xs) :
    Reps (bare (allFz w)) w [argV P t xs] [argU P t cs] ∧ fzV (argV P t xs) = true ∧ (argU P t cs).cells.toList = cs ∧ (argV P t xs).cells = xs ∧ (if isRowT P t then ∃ ds, argV P t xs = .agg ds else (argV P t xs).cells = [argV P t xs]) := by
  unfold argV argU
  cases hr : isRowT P t with
  | true =>
    simp only [if_true]
    refine ⟨?_, ?_, by simp [Value.cells], rfl, ⟨xs, rfl⟩⟩
    · have := Reps.agg h.reps h.one (xs := []) (vs := []) .nil
      exact this
    · simp only [fzV, okV, noRef, Bool.true_and]
      rw [noRefs_iff]
      exact fun x hx => fzV_noRef (h.ok x hx)
  | false =>
    simp only [Bool.false_eq_true, if_false]
    obtain ⟨x, rfl, hx⟩ := h.ty.single hr
    obtain ⟨u, us, rfl, h1, h2⟩ := h.reps.cons_left
    have : us = [] := h2.nil_left
    subst this
    refine ⟨h1, h.ok x (by simp), ?_, hx, hx⟩
    have hone := h.one u (by simp)
    simp only [List.headD_cons]
    cases u <;> simp_all [Value.cells, Value.oneCell']

section
variable {H : Type} {enc : TypeId × Value → H} {P : Program} {w : World} {base : Nat} {held : Bool}

theorem read_ok : ∀ (d : Nat) (t : TypeId) (n : Nat) (cs : List Value) (x : DataW H × List MemPlace), plainTy P d t = true → DataW.trod enc P w base (fun _ => true) held n t cs = some x → ∃ xs, Read P w d t cs xs := by
  intro d
  induction d with
  | zero => intro t n cs x h; simp [plainTy] at h
  | succ d ih =>
    intro t n cs x hp h
    unfold plainTy at hp
    split at hp
    · rename_i ht
      obtain ⟨b, rfl, _⟩ := DataW.trod_bool ht h
      exact ⟨[.lit (.bool b)], .lit rfl .nil, by unfold HasTy; rw [ht]; exact ⟨b, rfl⟩, by simp [fzV, okV, noRef], by simp [Value.oneCell']⟩
    · rename_i k ht
      obtain ⟨m, rfl, _, hw⟩ := DataW.trod_int ht h
      exact ⟨[.lit (.int k m)], .lit (by simp [leaf, hw]) .nil, by unfold HasTy; rw [ht]; exact ⟨m, rfl, hw⟩, by simp [fzV, okV, noRef], by simp [Value.oneCell']⟩
    · rename_i ht
      obtain ⟨s, rfl, _, hs⟩ := DataW.trod_string ht h
      exact ⟨[.lit (.string s)], .lit (by simp [leaf, hs]) .nil, by unfold HasTy; rw [ht]; exact ⟨s, rfl, hs⟩, by simp [fzV, okV, noRef], by simp [Value.oneCell']⟩
    · rename_i e ht
      simp only [Bool.and_eq_true, decide_eq_true_eq] at hp
      obtain ⟨hpe, hpos⟩ := hp
      have mk : ∀ (v : Value) (es : List V), Reps (bare (allFz w)) w [.sl false (P.cellsOf e) es] [v] → v.oneCell' = true → es.length ≤ maxLen → (∀ y ∈ es, fzV y = true) →
          (∀ y ∈ es, (if isRowT P e then ∃ ds, y = .agg ds else y.cells = [y]) ∧ HasTy P d e y.cells) → ∃ xs, Read P w (d + 1) t [v] xs := by
        intro v es h1 h2 h3 h4 h5
        refine ⟨_, h1, ?_, ?_, by simpa using h2⟩
        · unfold HasTy; rw [ht]; exact ⟨es, rfl, h3, h5⟩
        · intro y hy
          simp only [List.mem_singleton] at hy
          subst hy
          simp only [fzV, okV, noRef, Bool.true_and]
          rw [noRefs_iff]
          exact fun z hz => fzV_noRef (h4 z hz)
      rcases DataW.trod_slice ht h with ⟨rfl, _⟩ | ⟨a, len, cap, elems, rest, m, rfl, rfl, _, hb, hlc, hcm, hel, helem, hrest, _⟩
      · exact mk _ [] (.slnil .nil) rfl (by simp) (by simp) (by simp)
      · obtain ⟨hrl, hrest⟩ := hrest rfl
        by_cases hc0 : cap = 0
        · subst hc0
          have : len = 0 := by omega
          subst this
          exact mk _ [] (.slemp a .nil) rfl (by simp) (by simp) (by simp)
        · -- the first place is read
          have hspot : a.spot = none := by
            have hfirst : ∃ c0, w.cells? base (a.add 0) (P.cellsOf e) = some c0 := by
              by_cases hl0 : 0 < len
              · have := helem 0 hl0
                rw [Nat.zero_mul] at this
                have hlt : 0 < elems.length := by omega
                rw [List.getElem?_eq_getElem hlt] at this
                cases hq : w.cells? base (a.add 0) (P.cellsOf e) with
                | none => simp [hq] at this
                | some c0 => exact ⟨c0, rfl⟩
              · have hl0 : len = 0 := by omega
                subst hl0
                have := hrest 0 (by omega)
                simp only [Nat.zero_add, Nat.zero_mul] at this
                have hlt : 0 < rest.length := by omega
                rw [List.getElem?_eq_getElem hlt] at this
                cases hq : w.cells? base (a.add 0) (P.cellsOf e) with
                | none => simp [hq] at this
                | some c0 => exact ⟨c0, rfl⟩
            obtain ⟨c0, hc0'⟩ := hfirst
            obtain ⟨_, e2, e3⟩ := World.cells?_some hc0'
            have := e3 0 hpos
            have hlt : 0 < c0.length := by omega
            rw [List.getElem?_eq_getElem hlt] at this
            simp only [Addr.add, if_true] at this
            unfold World.cell? at this
            split at this
            · cases hs : a.spot with
              | none => rfl
              | some s => simp [hs] at this
            · cases this
          obtain ⟨ab, ao, as⟩ := a
          simp only at hspot
          subst hspot
          -- the elements
          have each : ∀ i, i < len → ∃ ci xi, w.cells? base (Addr.add ⟨ab, ao, none⟩ (i * P.cellsOf e)) (P.cellsOf e) = some ci ∧ Read P w d e ci xi := by
            intro i hi
            have := helem i hi
            have hlt : i < elems.length := by omega
            rw [List.getElem?_eq_getElem hlt] at this
            cases hq : w.cells? base (Addr.add ⟨ab, ao, none⟩ (i * P.cellsOf e)) (P.cellsOf e) with
            | none => simp [hq] at this
            | some ci =>
              simp only [hq, Option.bind_some] at this
              obtain ⟨xi, hxi⟩ := ih e m ci _ hpe this
              exact ⟨ci, xi, rfl, hxi⟩
          have list : ∀ k, k ≤ len → ∃ (es : List V) (us : List Value), es.length = k ∧ Reps (bare (allFz w)) w es us ∧ (∀ y ∈ es, fzV y = true) ∧ (∀ u ∈ us, u.cells.size = P.cellsOf e) ∧ (∀ u ∈ flat us, u.oneCell' = true) ∧
              (∀ y ∈ es, (if isRowT P e then ∃ ds, y = .agg ds else y.cells = [y]) ∧ HasTy P d e y.cells) ∧ (∀ j u, (flat us)[j]? = some u → w.cell? ⟨ab, ao + j, none⟩ = some u) := by
            intro k
            induction k with
            | zero => intro _; exact ⟨[], [], rfl, .nil, by simp, by simp, by simp [flat], by simp, by simp [flat]⟩
            | succ k ihk =>
              intro hk
              obtain ⟨es, us, l1, l2, l3, l4, l5, l6, l7⟩ := ihk (by omega)
              obtain ⟨ci, xi, hci, hr⟩ := each k (by omega)
              obtain ⟨a1, a2, a3, a4, a5⟩ := hr.arg
              obtain ⟨_, c2, c3⟩ := World.cells?_some hci
              have hsz : (argU P e ci).cells.size = P.cellsOf e := by
                have := congrArg List.length a3
                simpa [c2] using this
              refine ⟨es ++ [argV P e xi], us ++ [argU P e ci], by simp [l1], l2.append a1, ?_, ?_, ?_, ?_, ?_⟩
              · intro y hy
                rcases List.mem_append.1 hy with hy | hy
                · exact l3 y hy
                · rw [List.mem_singleton.1 hy]; exact a2
              · intro u hu
                rcases List.mem_append.1 hu with hu | hu
                · exact l4 u hu
                · rw [List.mem_singleton.1 hu]; exact hsz
              · intro u hu
                rw [flat_append] at hu
                rcases List.mem_append.1 hu with hu | hu
                · exact l5 u hu
                · rw [single_flat, a3] at hu
                  exact hr.one u hu
              · intro y hy
                rcases List.mem_append.1 hy with hy | hy
                · exact l6 y hy
                · rw [List.mem_singleton.1 hy]; exact ⟨a5, by rw [a4]; exact hr.ty⟩
              · intro j u hj
                rw [flat_append, single_flat, a3] at hj
                have hfl : (flat us).length = k * P.cellsOf e := by rw [flat_length l4, ← l2.length, l1]
                by_cases hlt : j < (flat us).length
                · rw [List.getElem?_append_left hlt] at hj
                  exact l7 j u hj
                · rw [List.getElem?_append_right (by omega)] at hj
                  have hjl : j - (flat us).length < P.cellsOf e := by
                    have := (List.getElem?_eq_some_iff.1 hj).1
                    omega
                  have := c3 _ hjl
                  rw [hj] at this
                  rw [← this]
                  congr 1
                  have hadd : Addr.add (Addr.add ⟨ab, ao, none⟩ (k * P.cellsOf e)) (j - (flat us).length) = ⟨ab, ao + j, none⟩ := by
                    simp only [Addr.add]
                    split <;> split <;> simp <;> omega
                  rw [hadd]
          obtain ⟨es, us, l1, l2, l3, l4, l5, l6, l7⟩ := list len (Nat.le_refl _)
          subst l1
          refine mk _ es ?_ rfl (by omega) l3 l6
          exact .sl ab ao cap (P.cellsOf e) l2 l3 l4 l5 hlc hcm (fun j u hj => ⟨⟨u, l7 j u hj⟩, l7 j u hj⟩) .nil
    · rename_i dd _ _ _ _ ht
      split at hp
      · rename_i ss hss
        simp only [Bool.and_eq_true, List.all_eq_true] at hp
        obtain ⟨hall, hcov⟩ := hp
        have parts : cs.length = P.cellsOf t ∧ ∀ s ∈ ss, ∃ xs, Read P w d s.2 ((cs.drop s.1).take (P.cellsOf s.2)) xs := by
          cases dd with
          | struct fs =>
            simp only [segsOf, Option.some.injEq] at hss
            obtain ⟨xs, m, _, _, hlen, hxl, hf⟩ := DataW.trod_struct ht h
            refine ⟨hlen, fun s hs => ?_⟩
            have hs' := hs
            rw [← hss] at hs
            obtain ⟨f, hfm, rfl⟩ := List.mem_map.1 hs
            obtain ⟨i, hi, hfi⟩ := List.getElem_of_mem hfm
            have hfi' : fs[i]? = some f := by simp at hi; rw [Array.getElem?_eq_getElem hi]; simp at hfi; rw [hfi]
            have := hf i f hfi'
            have hlt : i < xs.length := by simp at hi; omega
            rw [List.getElem?_eq_getElem hlt] at this
            exact ih f.type m _ _ (hall _ hs') this
          | array n' e =>
            simp only [segsOf, Option.some.injEq] at hss
            obtain ⟨xs, m, _, _, hlen, hxl, hf⟩ := DataW.trod_array ht h
            refine ⟨hlen, fun s hs => ?_⟩
            have hs' := hs
            rw [← hss] at hs
            obtain ⟨i, hi, rfl⟩ := List.mem_map.1 hs
            have hin : i < n' := by simpa using hi
            have := hf i hin
            have hlt : i < xs.length := by omega
            rw [List.getElem?_eq_getElem hlt] at this
            exact ih e m _ _ (hall _ hs') this
          | _ => simp [segsOf] at hss
        obtain ⟨hlen, hparts⟩ := parts
        obtain ⟨xs, h1, h2, h3, h4⟩ := read_segs (by rw [hlen]; exact hcov) hparts
        rw [List.drop_zero] at h1 h3
        refine ⟨xs, h1, ?_, h2, h3⟩
        unfold HasTy
        rw [ht]
        simp only [Nat.sub_zero] at h4
        split <;> first | (rename_i hq; simp only [Option.some.injEq] at hq; subst hq; simp [segsOf] at hss; done) | skip
        · rename_i hq
          simp only [Option.some.injEq] at hq
          subst hq
          rw [hss]
          exact ⟨by rw [h1.length]; exact hlen, h4⟩
        · rename_i hq; cases hq
      · cases hp
    · cases hp

/-- Arguments as they are read. -/
inductive ArgsRead (P : Program) (d : Nat) : List TypeId → List V → Prop where
  | nil : ArgsRead P d [] []
  | cons {t ts xs as} : HasTy P d t xs → ArgsRead P d ts as → ArgsRead P d (t :: ts) (argV P t xs :: as)

theorem okWide_arg {r : Reach} {b0 : Nat} {d : Nat} {t : TypeId} {v : Value} {xs : List V} (hv : Value.okWide P w r b0 t v) (h : Read P w d t v.cells.toList xs) : argU P t v.cells.toList = v := by
  unfold argU
  cases hr : isRowT P t with
  | true =>
    simp only [if_true]
    unfold isRowT at hr
    split at hr
    · rename_i dd hd
      unfold Value.okWide at hv
      rw [hd] at hv
      cases dd <;> simp [TypeDesc.isRow] at hr
      · obtain ⟨cs, rfl, _⟩ := hv; simp [Value.cells]
      · obtain ⟨cs, rfl, _⟩ := hv; simp [Value.cells]
    · cases hr
  | false =>
    simp only [Bool.false_eq_true, if_false]
    obtain ⟨x, rfl, _⟩ := h.ty.single hr
    have hne : ∀ cs, v ≠ .agg cs := by
      rintro cs rfl
      unfold isRowT at hr
      unfold Value.okWide at hv
      split at hv
      · rename_i hd; rw [hd] at hr; simp [TypeDesc.isRow] at hr
      · rename_i hd; rw [hd] at hr; simp [TypeDesc.isRow] at hr
      · unfold Cell.okWide at hv
        split at hv <;> simp_all [Cell.ok]
    cases v <;> first | rfl | exact absurd rfl (hne _)

theorem args_ok {d : Nat} : ∀ {ts : List TypeId} {vs : List Value} {ds : List (DataW H)} {ps : List MemPlace}, DataW.TrodAll enc P w base (fun _ => true) held ts vs ds ps → (∀ t ∈ ts, plainTy P d t = true) →
    (∀ (j : Nat) t v, ts[j]? = some t → vs[j]? = some v → ∃ r b0, Value.okWide P w r b0 t v) → ∃ as, Reps (bare (allFz w)) w as vs ∧ ArgsRead P d ts as := by
  intro ts
  induction ts with
  | nil =>
    intro vs ds ps h _ _
    cases vs with
    | nil => exact ⟨[], .nil, .nil⟩
    | cons v vs => cases ds <;> exact h.elim
  | cons t ts ih =>
    intro vs ds ps h hp hv
    cases vs with
    | nil => exact h.elim
    | cons v vs =>
      cases ds with
      | nil => exact h.elim
      | cons d0 ds =>
        obtain ⟨p, q, ⟨fuel, h1⟩, h2, _⟩ := h
        obtain ⟨as, r1, r2⟩ := ih h2 (fun t' ht' => hp t' (by simp [ht'])) (fun j t' v' hj hj' => hv (j + 1) t' v' (by simpa using hj) (by simpa using hj'))
        obtain ⟨xs, hx⟩ := read_ok d t fuel _ _ (hp t (by simp)) h1
        obtain ⟨r, b0, hok⟩ := hv 0 t v rfl rfl
        have ha := hx.arg.1
        rw [okWide_arg hok hx] at ha
        exact ⟨_, Reps.cons_iff.2 ⟨ha, r1⟩, .cons hx.ty r2⟩

end

end Go.Proofs.Ytcjccaonfgcakaa.Le
