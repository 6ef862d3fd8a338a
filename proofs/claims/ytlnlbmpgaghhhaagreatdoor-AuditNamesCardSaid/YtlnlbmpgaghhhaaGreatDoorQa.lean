/-
  The names of faults: what both functions come to.
-/
import Derived.Test.YtlnlbmpgaghhhaaGreatDoorFa4
namespace Go.Proofs.YtlnlbmpgaghhhaaGreatDoor
open Go Go.Proofs.YtlnlbmpgaghhhaaGreatDoor.Le
set_option linter.unusedVariables false
set_option maxRecDepth 100000

theorem w64_of {n : Int} (h : -9223372036854775808 ≤ n) (h' : n ≤ 9223372036854775807) : w64 n = n := by
  simp only [w64, IntKind.wrap, IntKind.signed, IntKind.bits]
  simp
  omega
def un : ByteArray := ⟨#[117, 110, 107, 110, 111, 119, 110]⟩
def sp : ByteArray := ⟨#[32]⟩
def tbl : Anon79 := ⟨(⟨#[]⟩ : ByteArray), (⟨#[111, 114, 100, 101, 114]⟩ : ByteArray), (⟨#[105, 110, 115, 116, 97, 110, 116]⟩ : ByteArray), (⟨#[115, 116, 97, 108, 101]⟩ : ByteArray), (⟨#[107, 101, 121, 115]⟩ : ByteArray), (⟨#[98, 111, 110, 100]⟩ : ByteArray), (⟨#[99, 97, 112, 116, 117, 114, 101]⟩ : ByteArray), (⟨#[116, 119, 105, 99, 101]⟩ : ByteArray)⟩
def lst : List ByteArray := [un, tbl.x1, tbl.x2, tbl.x3, tbl.x4, tbl.x5, tbl.x6, tbl.x7]
def word (k : Int) : ByteArray := if k = 1 then tbl.x1 else if k = 2 then tbl.x2 else if k = 3 then tbl.x3 else if k = 4 then tbl.x4 else if k = 5 then tbl.x5 else if k = 6 then tbl.x6 else if k = 7 then tbl.x7 else un
theorem word_size (k : Int) : (word k).size ≤ 7 := by
  unfold word
  repeat' split
  all_goals decide
theorem word_out {k : Int} (h : ¬ (0 < k ∧ k < 8)) : word k = un := by
  unfold word
  repeat rw [if_neg (by omega)]
def words (l : List api_Fault) : List ByteArray := l.map fun f => word f.Kind

/-! ## the program's -/
theorem nm3 (ws : List ByteArray) (w : ByteArray) (l : List api_Fault) (n i : Int) (hl : ws.length ≤ 1000) (t : Anon79) : flow T_audit_Names (.b3 ws w l n i t) = flow T_audit_Names (.b1 (ws ++ [w]) l n (w64 (i + 1)) t) := by
  refine (flow_eq _ _).trans ?_
  simp only [T_audit_Names, Tr.den, flowJ, List.length_cons, List.length_nil, beq_self_eq_true, cond_true]
  rw [show (decide ((ws.length + (0 + 1)) * 16 ≤ lim) && decide (ws.length + (0 + 1) ≤ maxLen)) = true from
    Bool.and_eq_true_iff.mpr ⟨decide_eq_true (Nat.le_trans (show _ ≤ 20000 by omega) (by decide)), decide_eq_true (Nat.le_trans (show _ ≤ 2000 by omega) (by decide))⟩]
  rfl
theorem nm2 (ws : List ByteArray) (l : List api_Fault) (n i : Int) (x : api_Fault) (h : 0 < x.Kind ∧ x.Kind < 8) : flow T_audit_Names (.b2 ws l n i tbl x) = flow T_audit_Names (.b3 ws (word x.Kind) l n i tbl) := by
  refine (flow_eq _ _).trans ?_
  simp only [T_audit_Names, Tr.den, flowJ, beq_self_eq_true, cond_true]
  have hk : x.Kind = 1 ∨ x.Kind = 2 ∨ x.Kind = 3 ∨ x.Kind = 4 ∨ x.Kind = 5 ∨ x.Kind = 6 ∨ x.Kind = 7 := by omega
  rcases hk with hk | hk | hk | hk | hk | hk | hk <;> rw [hk] <;> rfl
theorem nm_loop (l : List api_Fault) (hl : l.length ≤ 1000) : ∀ j i : Nat, i + j = l.length → flow T_audit_Names (.b1 (words (l.take i)) l l.length i tbl) = m_strings_Join (words l) sp := by
  intro j
  induction j with
  | zero =>
    intro i hi
    refine (flow_eq _ _).trans ?_
    simp only [T_audit_Names, Tr.den, flowJ, beq_self_eq_true, cond_true]
    rw [show decide ((i : Int) < (l.length : Int)) = false by simp; omega, show l.take i = l from List.take_of_length_le (by omega)]
    simp only [cond_false]
    show (m_strings_Join (words l) sp).bind some = _
    cases m_strings_Join (words l) sp <;> rfl
  | succ j ih =>
    intro i hi
    have hx : i < l.length := by omega
    have hw : (words (l.take i)).length ≤ 1000 := by simp [words]; omega
    have key : ∀ w, w = word (l[i]).Kind → flow T_audit_Names (.b3 (words (l.take i)) w l l.length i tbl) = m_strings_Join (words l) sp := by
      intro w hw'
      rw [nm3 _ _ _ _ _ hw, w64_of (by omega) (by omega), hw']
      have := ih (i + 1) (by omega)
      rw [show words (l.take (i + 1)) = words (l.take i) ++ [word (l[i]).Kind] by
        unfold words; rw [List.take_add_one, List.getElem?_eq_getElem hx, List.map_append]; rfl] at this
      exact this
    refine (flow_eq _ _).trans ?_
    simp only [T_audit_Names, Tr.den, flowJ, beq_self_eq_true, cond_true]
    rw [show decide ((i : Int) < (l.length : Int)) = true by simp; omega, show decide (0 ≤ (i : Int) ∧ (i : Int) < (l.length : Int)) = true by simp; omega]
    simp only [cond_true, Int.toNat_natCast, List.getElem?_eq_getElem hx, Option.bind_some]
    by_cases h1 : (l[i]).Kind > 0
    · by_cases h2 : (l[i]).Kind < 8
      · rw [decide_eq_true h1, decide_eq_true h2]
        simp only [cond_true]
        rw [nm2 _ _ _ _ _ ⟨h1, h2⟩]
        exact key _ rfl
      · rw [decide_eq_true h1, decide_eq_false h2]
        exact key _ (word_out (by omega)).symm
    · rw [decide_eq_false h1]
      exact key _ (word_out (by omega)).symm
theorem join_len (l : List api_Fault) (hl : l.length ≤ 1000) : (Lib.join ((words l).map (·.data.toList)) sp.data.toList).length ≤ 140737488355328 := by
  have hlens : ∀ l : List api_Fault, Lib.lens ((words l).map (·.data.toList)) ≤ 7 * l.length := by
    intro l
    induction l with
    | nil => simp [Lib.lens, words]
    | cons x r ih =>
      have := word_size x.Kind
      simp only [Lib.lens, words, List.map_cons, List.sum_cons, List.length_cons] at ih ⊢
      have hx : (word x.Kind).data.toList.length ≤ 7 := by rw [Array.length_toList]; exact this
      omega
  cases l with
  | nil => simp [words, Lib.join_nil]
  | cons x r =>
    have h1 := hlens (x :: r)
    have h2 := hlens r
    have hx : (word x.Kind).data.toList.length ≤ 7 := by rw [Array.length_toList]; exact word_size x.Kind
    simp only [words, List.map_cons, List.length_cons] at *
    rw [Lib.join_cons, List.length_append, Lib.joinTail_length]
    have hs : sp.data.toList.length = 1 := rfl
    rw [hs]
    simp only [List.length_map] at *
    omega
theorem v_audit_Names (l : List api_Fault) (hl : l.length ≤ 1000) : m_audit_Names l = some (joinB (words l) sp) := (flow_eq _ _).trans (by
  simp only [T_audit_Names, Tr.den, flowJ, List.length_nil, beq_self_eq_true, cond_true]
  refine (nm_loop l hl l.length 0 (by omega)).trans ?_
  unfold m_strings_Join
  rw [if_pos ⟨by simp [words]; omega, join_len l hl⟩])

/-! ## the document's -/
def more (s : ByteArray) : List ByteArray → ByteArray
  | [] => s
  | w :: ws => more (s ++ sp ++ w) ws
theorem more_list (s : ByteArray) (ws : List ByteArray) : (more s ws).data.toList = s.data.toList ++ Lib.joinTail sp.data.toList (ws.map (·.data.toList)) := by
  induction ws generalizing s with
  | nil => simp [more, Lib.joinTail]
  | cons w ws ih =>
    rw [more, ih]
    simp [Lib.joinTail, List.append_assoc]
theorem join_more (w : ByteArray) (ws : List ByteArray) : joinB (w :: ws) sp = more w ws := by
  have h : (joinB (w :: ws) sp).data.toList = (more w ws).data.toList := by
    rw [more_list, joinB, List.map_cons, Lib.join_cons]
  cases hj : joinB (w :: ws) sp
  cases hm : more w ws
  rw [hj, hm] at h
  simp only at h
  congr
  exact Array.toList_inj.1 h
theorem ba_eq {a b : ByteArray} (h : a.data.toList = b.data.toList) : a = b := by
  cases a
  cases b
  congr
  exact Array.toList_inj.1 h
theorem nil_app (w : ByteArray) : (⟨#[]⟩ : ByteArray) ++ w = w := ba_eq (by rw [ByteArray.data_append, Array.toList_append]; rfl)
theorem size_app (a b : ByteArray) : (a ++ b).size = a.size + b.size := by
  show (a ++ b).data.size = a.data.size + b.data.size
  rw [ByteArray.data_append, Array.size_append]
theorem rn5 (l : List api_Fault) (s : ByteArray) (i : Int) : flow T_r58_Names (.b5 lst l s i) = flow T_r58_Names (.b1 lst l s (w64 (i + 1))) := (flow_eq _ _).trans rfl
theorem rn4 (l : List api_Fault) (s : ByteArray) (i : Int) (hs : s.size ≤ 100000) : flow T_r58_Names (.b4 lst l s i) = flow T_r58_Names (.b1 lst l (s ++ un) (w64 (i + 1))) := by
  refine (flow_eq _ _).trans ?_
  simp only [T_r58_Names, Tr.den, flowJ, beq_self_eq_true, cond_true]
  rw [show decide (0 ≤ (0 : Int) ∧ (0 : Int) < (↑lst.length : Int)) = true from by decide, show lst[(0 : Int).toNat]? = some un from rfl]
  simp only [cond_true, Option.bind_some]
  rw [show decide (s.size + un.size ≤ maxLen) = true from decide_eq_true (Nat.le_trans (show s.size + 7 ≤ 200000 by omega) (by decide))]
  exact rn5 _ _ _
theorem rn3 (l : List api_Fault) (s : ByteArray) (i : Nat) (hi : i < l.length) (hl : l.length ≤ 1000) (hk : 1 ≤ (l[i]).Kind ∧ (l[i]).Kind ≤ 7) (hs : s.size ≤ 100000) : flow T_r58_Names (.b3 lst l s i) = flow T_r58_Names (.b1 lst l (s ++ word (l[i]).Kind) (w64 (i + 1))) := by
  refine (flow_eq _ _).trans ?_
  simp only [T_r58_Names, Tr.den, flowJ, beq_self_eq_true, cond_true]
  rw [show decide (0 ≤ (i : Int) ∧ (i : Int) < (l.length : Int)) = true by simp; omega]
  simp only [cond_true, Int.toNat_natCast, List.getElem?_eq_getElem hi, Option.bind_some]
  generalize (l[i]).Kind = k at hk
  have hw : lst[k.toNat]? = some (word k) := by
    have hk : k = 1 ∨ k = 2 ∨ k = 3 ∨ k = 4 ∨ k = 5 ∨ k = 6 ∨ k = 7 := by omega
    rcases hk with rfl | rfl | rfl | rfl | rfl | rfl | rfl <;> rfl
  rw [show decide (0 ≤ k ∧ k < (↑lst.length : Int)) = true from decide_eq_true ⟨by omega, by show k < 8; omega⟩, hw]
  simp only [cond_true, Option.bind_some]
  have h7 := word_size k
  rw [show decide (s.size + (word k).size ≤ maxLen) = true from decide_eq_true (Nat.le_trans (show s.size + (word k).size ≤ 200000 by omega) (by decide))]
  exact rn5 _ _ _
theorem rn2 (l : List api_Fault) (s : ByteArray) (i : Nat) (hi : i < l.length) (hl : l.length ≤ 1000) (hs : s.size ≤ 100000) : flow T_r58_Names (.b2 lst l s i) = flow T_r58_Names (.b1 lst l (s ++ word (l[i]).Kind) (i + 1 : Nat)) := by
  have hw : w64 ((i : Int) + 1) = ((i + 1 : Nat) : Int) := by rw [w64_of (by omega) (by omega)]; simp
  rw [← hw]
  refine (flow_eq _ _).trans ?_
  simp only [T_r58_Names, Tr.den, flowJ, beq_self_eq_true, cond_true]
  rw [show decide (0 ≤ (i : Int) ∧ (i : Int) < (l.length : Int)) = true by simp; omega]
  simp only [cond_true, Int.toNat_natCast, List.getElem?_eq_getElem hi, Option.bind_some]
  by_cases h1 : (l[i]).Kind ≥ 1
  · by_cases h2 : (l[i]).Kind ≤ 7
    · rw [decide_eq_true h1, decide_eq_true h2]
      exact rn3 l s i hi hl ⟨h1, h2⟩ hs
    · rw [decide_eq_true h1, decide_eq_false h2, word_out (by omega)]
      exact rn4 l s i hs
  · rw [decide_eq_false h1, word_out (by omega)]
    exact rn4 l s i hs
theorem rn_loop (l : List api_Fault) (hl : l.length ≤ 1000) : ∀ (j i : Nat) (s : ByteArray), i + j = l.length → 1 ≤ i → s.size ≤ 8 * i → flow T_r58_Names (.b1 lst l s i) = some (more s (words (l.drop i))) := by
  intro j
  induction j with
  | zero =>
    intro i s hi h1 hs
    refine (flow_eq _ _).trans ?_
    simp only [T_r58_Names, Tr.den, flowJ]
    rw [show decide ((i : Int) < (l.length : Int)) = false by simp; omega, List.drop_of_length_le (by omega)]
    rfl
  | succ j ih =>
    intro i s hi h1 hs
    have hx : i < l.length := by omega
    refine (flow_eq _ _).trans ?_
    simp only [T_r58_Names, Tr.den, flowJ, beq_self_eq_true, cond_true]
    rw [show decide ((i : Int) < (l.length : Int)) = true by simp; omega, show decide ((i : Int) > 0) = true by simp; omega]
    have hsp : (s ++ sp).size = s.size + 1 := size_app _ _
    rw [show decide (s.size + (⟨#[32]⟩ : ByteArray).size ≤ maxLen) = true from decide_eq_true (Nat.le_trans (show s.size + 1 ≤ 200000 by omega) (by decide))]
    simp only [cond_true]
    have h7 := word_size (l[i]).Kind
    have := rn2 l (s ++ sp) i hx hl (by omega)
    refine this.trans ?_
    rw [ih (i + 1) _ (by omega) (by omega) (by rw [size_app]; omega)]
    rw [List.drop_eq_getElem_cons hx]
    rfl
theorem v_r58_Names (l : List api_Fault) (hl : l.length ≤ 1000) : m_r58_Names l = some (joinB (words l) sp) := (flow_eq _ _).trans (by
  show (bif _ then flow T_r58_Names (.b1 lst l ⟨#[]⟩ 0) else none) = _
  refine (show _ = flow T_r58_Names (.b1 lst l ⟨#[]⟩ 0) from rfl).trans ?_
  cases l with
  | nil => exact (flow_eq _ _).trans rfl
  | cons x r =>
    refine (flow_eq _ _).trans ?_
    simp only [T_r58_Names, Tr.den, flowJ, beq_self_eq_true, cond_true]
    rw [show decide ((0 : Int) < ((x :: r).length : Int)) = true from decide_eq_true (by rw [List.length_cons]; omega), show decide ((0 : Int) > 0) = false by decide]
    simp only [cond_true, cond_false]
    have h := rn2 (x :: r) ⟨#[]⟩ 0 (by simp) hl (by decide)
    refine h.trans ?_
    rw [nil_app]
    have h7 := word_size x.Kind
    rw [rn_loop (x :: r) hl r.length 1 _ (by simp; omega) (by omega) (by simpa using (by omega : (word x.Kind).size ≤ 8))]
    rw [show words (x :: r) = word x.Kind :: words r from rfl, join_more]
    rfl)
theorem t_law58_AuditNames (l : List api_Fault) : m_law58_AuditNames l = some true := (flow_eq _ _).trans (by
  simp only [T_law58_AuditNames, Tr.den, flowJ, List.length_nil, beq_self_eq_true, cond_true, List.nil_append]
  rw [show m_law58_lives = some true from rfl]
  simp only [Option.bind_some, cond_true]
  by_cases h : (l.length : Int) > 1000
  · rw [decide_eq_true h]; rfl
  · have hl : l.length ≤ 1000 := by omega
    rw [decide_eq_false h, v_audit_Names l hl, v_r58_Names l hl]
    rw [show (decide ((0 + l.length) * 24 ≤ lim) && decide (0 + l.length ≤ maxLen)) = true from
      Bool.and_eq_true_iff.mpr ⟨decide_eq_true (Nat.le_trans (show _ ≤ 30000 by omega) (by decide)), decide_eq_true (Nat.le_trans (show _ ≤ 2000 by omega) (by decide))⟩]
    simp)
end Go.Proofs.YtlnlbmpgaghhhaaGreatDoor
