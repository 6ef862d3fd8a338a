/-
  AuditMeshes: the plain law.
-/
import Derived.Test.YtkepnndakhpgoaaGreatDoorF1
namespace Go.Proofs.YtkepnndakhpgoaaGreatDoor
open Go Go.Proofs.YtkepnndakhpgoaaGreatDoor.Le
set_option linter.unusedVariables false
set_option linter.unusedSimpArgs false
set_option maxRecDepth 100000

theorem w64_of {a : Int} (h₀ : 0 ≤ a) (h₁ : a < 9223372036854775808) : w64 a = a := by
  simp [w64, IntKind.wrap, IntKind.signed, IntKind.bits]
  split <;> omega

/-- Note q stands before note p, and they are the same message of node i. -/
def Hit (i : Int) (x : api_MeshNote) : Prop := x.Node = i ∧ x.Event.Kind = 1
def Pair (N : List api_MeshNote) (i : Int) (p q : Nat) : Prop := ∃ a b, N[p]? = some a ∧ N[q]? = some b ∧ Hit i a ∧ Hit i b ∧ (noteM a).seq = (noteM b).seq

theorem mtw_seen (N : List api_MeshNote) (i : Int) : ∀ m, m ≤ N.length → ∀ s, s ∈ (mtw (N.map noteM) i m).2 ↔ ∃ q < m, ∃ b, N[q]? = some b ∧ Hit i b ∧ (noteM b).seq = s := by
  intro m
  induction m with
  | zero => intro _ s; simp [mtw]
  | succ m ih =>
    intro hm s
    have h := ih (by omega) s
    have hlt : m < (N.map noteM).length := by rw [List.length_map]; omega
    have hlt' : m < N.length := by omega
    have hx : (N.map noteM)[m] = noteM N[m] := List.getElem_map ..
    by_cases hh : Hit i N[m]
    · rw [mtw_new hlt (by rw [hx]; exact hh), hx, List.mem_cons, h]
      constructor
      · rintro (rfl | ⟨q, hq, b, h1, h2, h3⟩)
        · exact ⟨m, by omega, N[m], List.getElem?_eq_getElem hlt', hh, rfl⟩
        · exact ⟨q, by omega, b, h1, h2, h3⟩
      · rintro ⟨q, hq, b, h1, h2, h3⟩
        by_cases he : q = m
        · subst he
          rw [List.getElem?_eq_getElem hlt'] at h1
          cases h1
          exact .inl h3.symm
        · exact .inr ⟨q, by omega, b, h1, h2, h3⟩
    · rw [mtw_old hlt (by rw [hx]; exact hh), h]
      constructor
      · rintro ⟨q, hq, b, h1, h2, h3⟩
        exact ⟨q, by omega, b, h1, h2, h3⟩
      · rintro ⟨q, hq, b, h1, h2, h3⟩
        by_cases he : q = m
        · subst he
          rw [List.getElem?_eq_getElem hlt'] at h1
          cases h1
          exact absurd h2 hh
        · exact ⟨q, by omega, b, h1, h2, h3⟩
theorem mtw_twice (N : List api_MeshNote) (i : Int) : ∀ m, m ≤ N.length → ((mtw (N.map noteM) i m).1 = true ↔ ∃ p < m, ∃ q < p, Pair N i p q) := by
  intro m
  induction m with
  | zero => intro _; simp [mtw]
  | succ m ih =>
    intro hm
    have h := ih (by omega)
    have hlt : m < (N.map noteM).length := by rw [List.length_map]; omega
    have hlt' : m < N.length := by omega
    have hx : (N.map noteM)[m] = noteM N[m] := List.getElem_map ..
    by_cases hh : Hit i N[m]
    · rw [mtw_new hlt (by rw [hx]; exact hh), hx, Bool.or_eq_true, h, decide_eq_true_eq, mtw_seen N i m (by omega)]
      constructor
      · rintro (⟨p, hp, q, hq, hP⟩ | ⟨q, hq, b, h1, h2, h3⟩)
        · exact ⟨p, by omega, q, hq, hP⟩
        · exact ⟨m, by omega, q, hq, N[m], b, List.getElem?_eq_getElem hlt', h1, hh, h2, h3.symm⟩
      · rintro ⟨p, hp, q, hq, hP⟩
        by_cases he : p = m
        · subst he
          obtain ⟨a, b, h1, h2, h3, h4, h5⟩ := hP
          rw [List.getElem?_eq_getElem hlt'] at h1
          cases h1
          exact .inr ⟨q, hq, b, h2, h4, h5.symm⟩
        · exact .inl ⟨p, by omega, q, hq, hP⟩
    · rw [mtw_old hlt (by rw [hx]; exact hh), h]
      constructor
      · rintro ⟨p, hp, q, hq, hP⟩
        exact ⟨p, by omega, q, hq, hP⟩
      · rintro ⟨p, hp, q, hq, hP⟩
        by_cases he : p = m
        · subst he
          obtain ⟨a, b, h1, h2, h3, h4, h5⟩ := hP
          rw [List.getElem?_eq_getElem hlt'] at h1
          cases h1
          exact absurd h3 hh
        · exact ⟨p, by omega, q, hq, hP⟩

/-! ## the document's function -/
open Classical in
theorem v_twice_in (M : api_Mesh) (hN : M.Notes.length ≤ 1000) (node : Int) (i : Nat) (a : api_MeshNote) (hi : i < M.Notes.length) (ha : M.Notes[i]? = some a) {r : Bool} (hr : flow T_r58_twice (.b1 node ((i + 1 : Nat) : Int) M) = some r) :
    ∀ (d k : Nat), k + d = i → ∃ b, flow T_r58_twice (.b2 node (i : Int) (k : Int) M a) = some b ∧ (b = true ↔ (∃ q, k ≤ q ∧ q < i ∧ Pair M.Notes node i q) ∨ r = true) := by
  intro d
  induction d with
  | zero =>
    intro k hk
    have hk' : k = i := by omega
    subst hk'
    refine ⟨r, (flow_eq _ _).trans ?_, ?_⟩
    · have c : decide ((k : Int) < (k : Int)) = false := by simp
      simp only [T_r58_twice, Tr.den, flowJ, c, cond_false]
      rw [w64_of (by omega) (by omega)]
      exact hr
    · constructor
      · exact .inr
      · rintro (⟨q, h1, h2, _⟩ | h)
        · omega
        · exact h
  | succ d ih =>
    intro k hk
    obtain ⟨b, hb, hb2⟩ := ih (k + 1) (by omega)
    have hkl : k < M.Notes.length := by omega
    have c1 : decide ((k : Int) < (i : Int)) = true := by simp; omega
    have c2 : decide ((0 : Int) ≤ (k : Int) ∧ (k : Int) < (M.Notes.length : Int)) = true := by simp; omega
    have hn : flow T_r58_twice (.b3 node (i : Int) (k : Int) M a) = some b := (flow_eq _ _).trans (by
      simp only [T_r58_twice, Tr.den, flowJ]
      rw [w64_of (by omega) (by omega)]
      exact hb)
    have step : flow T_r58_twice (.b2 node (i : Int) (k : Int) M a) = some (if Pair M.Notes node i k then true else b) := by
      refine (flow_eq _ _).trans ?_
      simp only [T_r58_twice, Tr.den, flowJ, c1, c2, cond_true, Int.toNat_natCast, List.getElem?_eq_getElem hkl, Option.bind_some]
      by_cases hP : Pair M.Notes node i k
      · rw [if_pos hP]
        obtain ⟨a', b', h1, h2, ⟨h3, h4⟩, ⟨h5, h6⟩, h7⟩ := hP
        rw [ha] at h1
        cases h1
        rw [List.getElem?_eq_getElem hkl] at h2
        cases h2
        simp only [noteM, MN.seq, Prod.mk.injEq] at h7
        simp only [h3, h4, h5, h6, h7.1, h7.2.1, h7.2.2, beq_self_eq_true, Bool.and_self, cond_true]
      · rw [if_neg hP]
        have e : ∀ (c : Bool) (x : Option Bool), (c = true → x = some b) → cond c x (some b) = some b := fun c x h => by cases c with | true => exact h rfl | false => rfl
        rw [hn]
        refine e _ _ fun h1 => e _ _ fun h2 => e _ _ fun h3 => e _ _ fun h4 => ?_
        have : ¬ ((a.Event.Access.Seq.Src == M.Notes[k].Event.Access.Seq.Src) && ((a.Event.Access.Seq.IV == M.Notes[k].Event.Access.Seq.IV) && ((a.Event.Access.Seq.Seq == M.Notes[k].Event.Access.Seq.Seq) && true))) = true := fun h => by
          simp only [Bool.and_eq_true, beq_iff_eq, and_true] at h
          exact hP ⟨a, M.Notes[k], ha, List.getElem?_eq_getElem hkl, ⟨by simpa using h1, by simpa using h3⟩, ⟨by simpa using h2, by simpa using h4⟩, by simp only [noteM, MN.seq, Prod.mk.injEq]; exact h⟩
        rw [Bool.not_eq_true] at this
        rw [this]
        rfl
    refine ⟨_, step, ?_⟩
    split
    · rename_i hP
      exact ⟨fun _ => .inl ⟨k, Nat.le_refl _, by omega, hP⟩, fun _ => rfl⟩
    · rename_i hP
      rw [hb2]
      constructor
      · rintro (⟨q, h1, h2, h3⟩ | h)
        · exact .inl ⟨q, by omega, h2, h3⟩
        · exact .inr h
      · rintro (⟨q, h1, h2, h3⟩ | h)
        · by_cases he : q = k
          · subst he; exact absurd h3 hP
          · exact .inl ⟨q, by omega, h2, h3⟩
        · exact .inr h
theorem v_twice_out (M : api_Mesh) (hN : M.Notes.length ≤ 1000) (node : Int) : ∀ (d i : Nat), i + d = M.Notes.length → ∃ b, flow T_r58_twice (.b1 node (i : Int) M) = some b ∧ (b = true ↔ ∃ p, i ≤ p ∧ p < M.Notes.length ∧ ∃ q < p, Pair M.Notes node p q) := by
  intro d
  induction d with
  | zero =>
    intro i hi
    refine ⟨false, (flow_eq _ _).trans ?_, ?_⟩
    · have c : decide ((i : Int) < (M.Notes.length : Int)) = false := by simp; omega
      simp only [T_r58_twice, Tr.den, flowJ, c, cond_false]
    · constructor
      · intro h; cases h
      · rintro ⟨p, h1, h2, _⟩; omega
  | succ d ih =>
    intro i hi
    obtain ⟨r, hr, hr2⟩ := ih (i + 1) (by omega)
    have hil : i < M.Notes.length := by omega
    obtain ⟨b, hb, hb2⟩ := v_twice_in M hN node i M.Notes[i] hil (List.getElem?_eq_getElem hil) hr i 0 (by omega)
    refine ⟨b, (flow_eq _ _).trans ?_, ?_⟩
    · have c1 : decide ((i : Int) < (M.Notes.length : Int)) = true := by simp; omega
      have c2 : decide ((0 : Int) ≤ (i : Int) ∧ (i : Int) < (M.Notes.length : Int)) = true := by simp; omega
      simp only [T_r58_twice, Tr.den, flowJ, c1, c2, cond_true, Int.toNat_natCast, List.getElem?_eq_getElem hil, Option.bind_some]
      exact hb
    · rw [hb2, hr2]
      constructor
      · rintro (⟨q, _, h2, h3⟩ | ⟨p, h1, h2, h3⟩)
        · exact ⟨i, Nat.le_refl _, hil, q, h2, h3⟩
        · exact ⟨p, by omega, h2, h3⟩
      · rintro ⟨p, h1, h2, q, h3, h4⟩
        by_cases he : p = i
        · subst he; exact .inl ⟨q, by omega, h3, h4⟩
        · exact .inr ⟨p, by omega, h2, q, h3, h4⟩
theorem v_twice (M : api_Mesh) (hN : M.Notes.length ≤ 1000) (node : Int) : m_r58_twice M node = some (mtw (M.Notes.map noteM) node M.Notes.length).1 := by
  obtain ⟨b, hb, hb2⟩ := v_twice_out M hN node M.Notes.length 0 (by omega)
  have : b = (mtw (M.Notes.map noteM) node M.Notes.length).1 := by
    rw [Bool.eq_iff_iff, hb2, mtw_twice _ _ _ (Nat.le_refl _)]
    constructor
    · rintro ⟨p, _, h⟩; exact ⟨p, h⟩
    · rintro ⟨p, h⟩; exact ⟨p, by omega, h⟩
  refine (flow_eq _ _).trans ?_
  simp only [T_r58_twice, Tr.den, flowJ]
  rw [← this]
  exact hb

def faultL (l : List Nat) : List api_Fault := l.map fun (i : Nat) => ⟨7, (i : Int), 0⟩
theorem v_Mesh_loop (M : api_Mesh) (hN : M.Notes.length ≤ 1000) (hM : M.Nodes.length ≤ 1000) : ∀ (d k : Nat), k + d = M.Nodes.length →
    flow T_r58_Mesh (.b1 (faultL (mlist (M.Notes.map noteM) k)) (k : Int) M) = some (faultL (mlist (M.Notes.map noteM) M.Nodes.length)) := by
  intro d
  induction d with
  | zero =>
    intro k hk
    have : k = M.Nodes.length := by omega
    subst this
    refine (flow_eq _ _).trans ?_
    have c : decide ((M.Nodes.length : Int) < (M.Nodes.length : Int)) = false := by simp
    simp only [T_r58_Mesh, Tr.den, flowJ, c, cond_false, beq_self_eq_true, cond_true]
  | succ d ih =>
    intro k hk
    have c1 : decide ((k : Int) < (M.Nodes.length : Int)) = true := by simp; omega
    have hs := mlist_succ (M.Notes.map noteM) k
    rw [List.length_map] at hs
    have hlen := mlist_len (M.Notes.map noteM) k
    have hn := ih (k + 1) (by omega)
    have h2 : flow T_r58_Mesh (.b2 (faultL (mlist (M.Notes.map noteM) (k + 1))) (k : Int) M) = some (faultL (mlist (M.Notes.map noteM) M.Nodes.length)) := (flow_eq _ _).trans (by
      simp only [T_r58_Mesh, Tr.den, flowJ, beq_self_eq_true, cond_true]
      rw [w64_of (by omega) (by omega)]
      exact hn)
    refine (flow_eq _ _).trans ?_
    simp only [T_r58_Mesh, Tr.den, flowJ, c1, cond_true, v_twice M hN, Option.bind_some]
    cases hb : (mtw (M.Notes.map noteM) (k : Int) M.Notes.length).1 with
    | false =>
      rw [hb, if_neg (by simp)] at hs
      simp only [cond_false, beq_self_eq_true, cond_true]
      rw [hs] at h2
      exact h2
    | true =>
      rw [hb, if_pos rfl] at hs
      have he : faultL (mlist (M.Notes.map noteM) k) ++ [(⟨(7 : Int), (k : Int), (0 : Int)⟩ : api_Fault)] = faultL (mlist (M.Notes.map noteM) (k + 1)) := by rw [hs]; simp [faultL]
      have hl : (faultL (mlist (M.Notes.map noteM) k)).length ≤ 1000 := by unfold faultL; rw [List.length_map]; omega
      have c3 : decide ((((faultL (mlist (M.Notes.map noteM) k)).length + 1) * 24 ≤ lim)) = true := decide_eq_true (by unfold lim; omega)
      have c4 : decide (((faultL (mlist (M.Notes.map noteM) k)).length + 1) ≤ maxLen) = true := decide_eq_true (by unfold maxLen; omega)
      simp only [cond_true, beq_self_eq_true, List.length_cons, List.length_nil, he, Nat.zero_add, c3, c4, Bool.and_self]
      exact h2
theorem v_Mesh (M : api_Mesh) (hN : M.Notes.length ≤ 1000) (hM : M.Nodes.length ≤ 1000) : m_r58_Mesh M = some (faultL (mlist (M.Notes.map noteM) M.Nodes.length)) := by
  refine (flow_eq _ _).trans ?_
  have := v_Mesh_loop M hN hM M.Nodes.length 0 (by omega)
  simp only [T_r58_Mesh, Tr.den, flowJ, List.length_nil, beq_self_eq_true, cond_true]
  exact this
theorem v_Same_loop (l : List api_Fault) (hl : l.length ≤ 100000) : ∀ (d k : Nat), k + d = l.length → flow T_r58_Same (.b1 l l (k : Int)) = some true := by
  intro d
  induction d with
  | zero =>
    intro k hk
    refine (flow_eq _ _).trans ?_
    have c : decide ((k : Int) < (l.length : Int)) = false := by simp; omega
    simp only [T_r58_Same, Tr.den, flowJ, c, cond_false]
  | succ d ih =>
    intro k hk
    have hkl : k < l.length := by omega
    have c1 : decide ((k : Int) < (l.length : Int)) = true := by simp; omega
    have c2 : decide ((0 : Int) ≤ (k : Int) ∧ (k : Int) < (l.length : Int)) = true := by simp; omega
    refine (flow_eq _ _).trans ?_
    simp only [T_r58_Same, Tr.den, flowJ, c1, c2, cond_true, Int.toNat_natCast, List.getElem?_eq_getElem hkl, Option.bind_some, beq_self_eq_true, Bool.and_self, Bool.not_true, cond_false]
    rw [w64_of (by omega) (by omega)]
    exact ih (k + 1) (by omega)
theorem v_Same (l : List api_Fault) (hl : l.length ≤ 100000) : m_r58_Same l l = some true := by
  refine (flow_eq _ _).trans ?_
  simp only [T_r58_Same, Tr.den, flowJ, bne_self_eq_false, cond_false]
  exact v_Same_loop l hl l.length 0 (by omega)

theorem t_law58_AuditMeshes (n : Int) (l : List api_MeshNote) : m_law58_AuditMeshes n l = some true := (flow_eq _ _).trans (by
  simp only [T_law58_AuditMeshes, m_law58_lives, Tr.den, flowJ, Option.bind_some, Bool.not_true, cond_false]
  by_cases h1 : n < 0
  · rw [decide_eq_true h1]; rfl
  by_cases h2 : n > 16
  · rw [decide_eq_false h1, decide_eq_true h2]; rfl
  by_cases h3 : (l.length : Int) > 60
  · rw [decide_eq_false h1, decide_eq_false h2, decide_eq_true h3]; rfl
  rw [decide_eq_false h1, decide_eq_false h2, decide_eq_false h3]
  simp only [cond_false]
  refine (flow_eq _ _).trans ?_
  have hn : n.toNat ≤ 16 := by omega
  have c : decide ((0 : Int) ≤ n ∧ n ≤ n ∧ n.toNat * 480 ≤ lim ∧ n ≤ (maxLen : Int)) = true := decide_eq_true ⟨by omega, Int.le_refl _, by simp [lim]; omega, by simp [maxLen]; omega⟩
  have hM : (⟨(List.replicate (Int.toNat n) z_api_Node), [], [], (0 : Int), (0 : Int), [], l⟩ : api_Mesh).Nodes.length ≤ 1000 := by simp; omega
  have hN : (⟨(List.replicate (Int.toNat n) z_api_Node), [], [], (0 : Int), (0 : Int), [], l⟩ : api_Mesh).Notes.length ≤ 1000 := by simp; omega
  have ha : m_audit_Mesh (⟨(List.replicate (Int.toNat n) z_api_Node), [], [], (0 : Int), (0 : Int), [], l⟩ : api_Mesh) = some (faultL (mlist (l.map noteM) (List.replicate (Int.toNat n) z_api_Node).length)) := by
    unfold m_audit_Mesh
    rw [if_pos ⟨hM, hN⟩]
    rfl
  simp only [T_law58_AuditMeshes, Tr.den, flowJ, c, cond_true, beq_self_eq_true, ha, v_Mesh _ hN hM, Option.bind_some]
  rw [v_Same _ (by have := mlist_len (l.map noteM) (List.replicate (Int.toNat n) z_api_Node).length; simp [faultL] at this ⊢; omega)]
  rfl)
end Go.Proofs.YtkepnndakhpgoaaGreatDoor
