/-
  An evaluator for the model's code over pure values: equality of structs and arrays of scalars.
-/
import Derived.Test.YtcjccaonfgcakaaLe13
import Derived.DeepKeys
namespace Go.Proofs.Ytcjccaonfgcakaa.Le
set_option linter.unusedVariables false
open Go.RowKit (Below)

/-- What a cell of a kind is, as a key's part. -/
def fkLit : FK → Value → Option Lit
  | .b, .bool b => some (.bool b)
  | .i k, .int j n => if j = k ∧ (Lit.int k n).wf = true then some (.int k n) else none
  | .s, .string s => if s.size ≤ maxLen then some (.string s.data.toList) else none
  | _, _ => none

def fkLits : List FK → List Value → Option (List Lit)
  | [], [] => some []
  | k :: ks, v :: vs => match fkLit k v, fkLits ks vs with | some l, some ls => some (l :: ls) | _, _ => none
  | _, _ => none

theorem fkLits_len : ∀ {ks : List FK} {vs : List Value} {ls : List Lit}, fkLits ks vs = some ls → vs.length = ks.length ∧ ls.length = ks.length
  | [], [], ls, h => by simp [fkLits] at h; subst h; simp
  | [], v :: vs, ls, h => by simp [fkLits] at h
  | k :: ks, [], ls, h => by simp [fkLits] at h
  | k :: ks, v :: vs, ls, h => by
    simp only [fkLits] at h
    split at h
    · rename_i l ls' h1 h2
      simp only [Option.some.injEq] at h
      subst h
      obtain ⟨a, b⟩ := fkLits_len h2
      simp [a, b]
    · cases h

theorem fkLits_append : ∀ {ks ks' : List FK} {vs : List Value} {ls : List Lit}, fkLits (ks ++ ks') vs = some ls → ∃ l1 l2, fkLits ks (vs.take ks.length) = some l1 ∧ fkLits ks' (vs.drop ks.length) = some l2 ∧ ls = l1 ++ l2
  | [], ks', vs, ls, h => ⟨[], ls, by simp [fkLits], by simpa using h, rfl⟩
  | k :: ks, ks', [], ls, h => by simp [fkLits] at h
  | k :: ks, ks', v :: vs, ls, h => by
    simp only [List.cons_append, fkLits] at h
    split at h
    · rename_i l ls' h1 h2
      simp only [Option.some.injEq] at h
      subst h
      obtain ⟨l1, l2, a, b, c⟩ := fkLits_append h2
      exact ⟨l :: l1, l2, by simp [fkLits, h1, a], by simpa using b, by simp [c]⟩
    · cases h

theorem lits_fields {P : Program} {d : Nat} (ih : ∀ t ks vs ls, fkOf P d t = some ks → fkLits ks vs = some ls → P.keyLits d t vs = some ls) :
    ∀ (fs : List Field) (off : Nat) (ks : List FK) (vs : List Value) (ls : List Lit), fkFields P (fkOf P d) off fs = some ks → fkLits ks (vs.drop off) = some ls →
      (fs.mapM fun f => P.keyLits d f.type ((vs.drop f.offset).take (P.cellsOf f.type))).map List.flatten = some ls ∧ (∀ f ∈ fs, (f.name != "_") = true)
  | [], off, ks, vs, ls, h, hl => by
    simp only [fkFields, Option.some.injEq] at h
    subst h
    cases hd : vs.drop off with
    | nil => rw [hd] at hl; simp [fkLits] at hl; subst hl; simp
    | cons a b => rw [hd] at hl; simp [fkLits] at hl
  | f :: fs, off, ks, vs, ls, h, hl => by
    simp only [fkFields] at h
    split at h
    · rename_i hc
      obtain ⟨c1, c2⟩ := hc
      split at h
      · rename_i k1 hk1
        split at h
        · rename_i hsz
          split at h
          · rename_i rest hrest
            simp only [Option.some.injEq] at h
            subst h
            obtain ⟨l1, l2, a, b, rfl⟩ := fkLits_append hl
            rw [List.drop_drop] at b
            obtain ⟨r1, r2⟩ := lits_fields ih fs (off + k1.length) rest vs l2 hrest b
            have h1 := ih f.type k1 _ l1 hk1 a
            refine ⟨?_, ?_⟩
            · rw [List.mapM_cons]
              rw [c1, hsz, h1]
              cases hm : fs.mapM fun f => P.keyLits d f.type ((vs.drop f.offset).take (P.cellsOf f.type)) with
              | none => simp [hm] at r1
              | some ms =>
                simp only [hm, Option.map_some, Option.some.injEq] at r1
                simp [r1]
            · intro g hg
              rcases List.mem_cons.1 hg with rfl | hg
              · exact c2
              · exact r2 g hg
          · cases h
        · cases h
      · cases h
    · cases h

theorem lits_items {P : Program} {d : Nat} {e : TypeId} {ks : List FK} (ih : ∀ vs ls, fkLits ks vs = some ls → P.keyLits d e vs = some ls) (hsz : P.cellsOf e = ks.length) :
    ∀ (n s : Nat) (vs : List Value) (ls : List Lit), fkLits (List.replicate n ks).flatten (vs.drop (s * ks.length)) = some ls →
      ((List.range' s n).mapM fun i => P.keyLits d e ((vs.drop (i * P.cellsOf e)).take (P.cellsOf e))).map List.flatten = some ls
  | 0, s, vs, ls, h => by
    cases hd : vs.drop (s * ks.length) with
    | nil => rw [hd] at h; simp [fkLits] at h; subst h; simp
    | cons a b => rw [hd] at h; simp [fkLits] at h
  | n + 1, s, vs, ls, h => by
    rw [List.replicate_succ, List.flatten_cons] at h
    obtain ⟨l1, l2, a, b, rfl⟩ := fkLits_append h
    rw [List.drop_drop, ← Nat.succ_mul] at b
    have r := lits_items ih hsz n (s + 1) vs l2 b
    have h1 := ih _ l1 a
    rw [List.range'_succ, List.mapM_cons, hsz, h1]
    rw [hsz] at r
    cases hm : (List.range' (s + 1) n).mapM fun i => P.keyLits d e ((vs.drop (i * ks.length)).take ks.length) with
    | none => simp [hm] at r
    | some ms =>
      simp only [hm, Option.map_some, Option.some.injEq] at r
      simp [r]

theorem lits_ok {P : Program} : ∀ (d : Nat) (t : TypeId) (ks : List FK) (vs : List Value) (ls : List Lit), fkOf P d t = some ks → fkLits ks vs = some ls → P.keyLits d t vs = some ls
  | 0, t, ks, vs, ls, h, hl => by simp [fkOf] at h
  | d + 1, t, ks, vs, ls, h, hl => by
    have ih := lits_ok (P := P) d
    have hlen := fkLits_len hl
    unfold fkOf at h
    split at h
    · rename_i hu
      simp only [Option.some.injEq] at h
      subst h
      match vs, hl with
      | [v], hl =>
        cases v <;> simp [fkLits, fkLit] at hl
        subst hl
        simp [Program.keyLits, hu]
    · rename_i k hu
      simp only [Option.some.injEq] at h
      subst h
      match vs, hl with
      | [v], hl =>
        cases v <;> simp [fkLits, fkLit] at hl
        rename_i j n
        by_cases hc : j = k ∧ (Lit.int k n).wf = true
        · rw [if_pos hc] at hl
          simp at hl
          subst hl
          simp [Program.keyLits, hu, hc.1, hc.2]
        · rw [if_neg hc] at hl
          simp at hl
    · rename_i hu
      simp only [Option.some.injEq] at h
      subst h
      match vs, hl with
      | [v], hl =>
        cases v <;> simp [fkLits, fkLit] at hl
        rename_i s
        by_cases hc : s.size ≤ maxLen
        · rw [if_pos hc] at hl
          simp at hl
          subst hl
          simp [Program.keyLits, hu, hc]
        · rw [if_neg hc] at hl
          simp at hl
    · rename_i n e hu
      split at h
      · rename_i k1 hk1
        split at h
        · rename_i hc
          simp only [Option.some.injEq] at h
          subst h
          have hl2 : vs.length = P.cellsOf t := by rw [hlen.1, hc.2]; simp
          have r := lits_items (fun vs ls h => ih e k1 vs ls hk1 h) hc.1 n 0 vs ls (by simpa using hl)
          unfold Program.keyLits
          rw [hu]
          simp only [hl2, if_true, List.range_eq_range']
          exact r
        · cases h
      · cases h
    · rename_i fs hu
      split at h
      · rename_i k1 hk1
        split at h
        · rename_i hc
          simp only [Option.some.injEq] at h
          subst h
          have hl2 : vs.length = P.cellsOf t := by rw [hlen.1, hc]
          obtain ⟨r1, r2⟩ := lits_fields ih fs.toList 0 k1 vs ls hk1 (by simpa using hl)
          unfold Program.keyLits
          rw [hu]
          simp only []
          rw [if_pos ⟨hl2, by
            rw [Array.all_eq_true_iff_forall_mem]
            intro f hf
            exact r2 f (by simpa using hf)⟩]
          exact r1
        · cases h
      · cases h
    · cases h

theorem str_data_eq (a b : ByteArray) : (a == b) = true ↔ a.data.toList = b.data.toList := by
  rw [beq_toListBytes, beq_iff_eq, ByteArray.toList_eq, ByteArray.toList_eq]

theorem eqCells_lits {σ w} : ∀ {ks : List FK} {xs ys : List V} {vx vy : List Value} {r : Bool}, Reps σ w xs vx → Reps σ w ys vy → eqCells ks xs ys = some r →
    ∃ la lb, fkLits ks vx = some la ∧ fkLits ks vy = some lb ∧ (r = true ↔ la = lb) := by
  intro ks
  induction ks with
  | nil =>
    intro xs ys vx vy r hx hy he
    cases xs <;> cases ys <;> simp [eqCells] at he
    cases hx.nil_left
    cases hy.nil_left
    exact ⟨[], [], rfl, rfl, by simp [he]⟩
  | cons k ks ih =>
    intro xs ys vx vy r hx hy he
    unfold eqCells at he
    split at he
    · rename_i h1 h2 h3; cases h3
    · rename_i ks' a xs b ys h1
      cases h1
      obtain ⟨v1, vx', rfl, p1, p2⟩ := hx.cons_left
      obtain ⟨v2, vy', rfl, q1, q2⟩ := hy.cons_left
      cases p1 with
      | lit _ _ =>
      cases q1 with
      | lit _ _ =>
      split at he
      · rename_i r' hr
        obtain ⟨la, lb, e1, e2, e3⟩ := ih p2 q2 hr
        simp only [Option.some.injEq] at he
        subst he
        refine ⟨.bool a :: la, .bool b :: lb, by simp [fkLits, fkLit, e1], by simp [fkLits, fkLit, e2], ?_⟩
        simp [e3]
      · cases he
    · rename_i k' ks' k1 a xs k2 b ys h1
      cases h1
      obtain ⟨v1, vx', rfl, p1, p2⟩ := hx.cons_left
      obtain ⟨v2, vy', rfl, q1, q2⟩ := hy.cons_left
      split at he
      · rename_i hk
        obtain ⟨rfl, rfl⟩ := hk
        cases p1 with
        | lit l1 _ =>
        cases q1 with
        | lit l2 _ =>
        split at he
        · rename_i r' hr
          obtain ⟨la, lb, e1, e2, e3⟩ := ih p2 q2 hr
          simp only [Option.some.injEq] at he
          subst he
          have w1 : (Lit.int k2 a).wf = true := by simpa [leaf] using l1
          have w2 : (Lit.int k2 b).wf = true := by simpa [leaf] using l2
          refine ⟨.int k2 a :: la, .int k2 b :: lb, by simp [fkLits, fkLit, e1, w1], by simp [fkLits, fkLit, e2, w2], ?_⟩
          simp [e3]
        · cases he
      · cases he
    · rename_i ks' a xs b ys h1
      cases h1
      obtain ⟨v1, vx', rfl, p1, p2⟩ := hx.cons_left
      obtain ⟨v2, vy', rfl, q1, q2⟩ := hy.cons_left
      cases p1 with
      | lit l1 _ =>
      cases q1 with
      | lit l2 _ =>
      split at he
      · rename_i r' hr
        obtain ⟨la, lb, e1, e2, e3⟩ := ih p2 q2 hr
        simp only [Option.some.injEq] at he
        subst he
        have w1 : a.size ≤ maxLen := by simpa [leaf] using l1
        have w2 : b.size ≤ maxLen := by simpa [leaf] using l2
        refine ⟨.string a.data.toList :: la, .string b.data.toList :: lb, by simp [fkLits, fkLit, e1, w1], by simp [fkLits, fkLit, e2, w2], ?_⟩
        rw [Bool.and_eq_true, str_data_eq, e3]
        simp
      · cases he
    · cases he

theorem structEq_ok {E : Env} {P : Program} {σ w} (hE : EnvOK E) (hP : E.P = P) {t : TypeId} {ks : List FK} {xs ys : List V} {vx vy : List Value} {r : Bool} (hf : E.flat t = some ks) (hx : Reps σ w xs vx) (hy : Reps σ w ys vy)
    (he : eqCells ks xs ys = some r) : (Op.equalIn 10000 t (.agg vx.toArray) (.agg vy.toArray)).run P w = .ok r w ∧ P.eqGuardType P.depth t = false := by
  have hfl := hE.flat t ks hf
  rw [hP] at hfl
  obtain ⟨la, lb, h1, h2, h3⟩ := eqCells_lits hx hy he
  have hrow : (∃ fs, P.underlying t = some (.struct fs)) ∨ ∃ n e, P.underlying t = some (.array n e) := by
    unfold flatOf at hfl
    split at hfl
    · rename_i fs hu; exact .inl ⟨fs, hu⟩
    · rename_i n e hu; exact .inr ⟨n, e, hu⟩
    · cases hfl
  have hk : P.keyTypeAt 20 t = true ∧ P.eqGuardType P.depth t = false ∧ fkOf P 20 t = some ks := by
    unfold flatOf at hfl
    rcases hrow with ⟨fs, hu⟩ | ⟨n, e, hu⟩ <;> rw [hu] at hfl <;> simp only [] at hfl <;> split at hfl <;> simp_all
  obtain ⟨k1, k2, k3⟩ := hk
  have l1 := lits_ok 20 t ks vx la k3 h1
  have l2 := lits_ok 20 t ks vy lb k3 h2
  have hcells : P.cellsOf t = ks.length := by
    rcases hrow with ⟨fs, hu⟩ | ⟨n, e, hu⟩ <;> unfold fkOf at k3 <;> rw [hu] at k3 <;> simp only [] at k3
    · split at k3
      · split at k3
        · rename_i hc; cases k3; exact hc
        · cases k3
      · cases k3
    · split at k3
      · split at k3
        · rename_i hc; simp only [Option.some.injEq] at k3; rw [← k3, hc.2]; simp
        · cases k3
      · cases k3
  have f1 : (Value.agg vx.toArray).formed P t = true := by
    rcases hrow with ⟨fs, hu⟩ | ⟨n, e, hu⟩ <;> simp [Value.formed, hu, hcells, (fkLits_len h1).1]
  have f2 : (Value.agg vy.toArray).formed P t = true := by
    rcases hrow with ⟨fs, hu⟩ | ⟨n, e, hu⟩ <;> simp [Value.formed, hu, hcells, (fkLits_len h2).1]
  obtain ⟨r', hr', hiff⟩ := run_equalIn_deep (P := P) 9980 20 t k1 w 20 20 (.agg vx.toArray) (.agg vy.toArray) la lb f1 f2 (by simpa [Value.cells] using l1) (by simpa [Value.cells] using l2)
  refine ⟨?_, k2⟩
  have : r' = r := by
    rw [Bool.eq_iff_iff, hiff, h3]
  rw [← this]
  exact hr'

end Go.Proofs.Ytcjccaonfgcakaa.Le
