/-
  An evaluator for the model's code over pure values: a region that draws its order runs as in its own order.
-/
import Derived.Test.YtcjccaonfgcakaaLe19
namespace Go.Proofs.Ytcjccaonfgcakaa.Le
set_option linter.unusedVariables false
open Go.RowKit (Below)

/-! ### masks -/

theorem foldl_bit (acc : List Nat) (j : Nat) : ∀ (es : List Edge) (m : Nat), (es.foldl (fun m e => if Region.binds .any e then m ||| (1 <<< e.on) ||| acc.getD e.on 0 else m) m).testBit j = true ↔
    m.testBit j = true ∨ ∃ e ∈ es, Region.binds .any e = true ∧ (j = e.on ∨ (acc.getD e.on 0).testBit j = true) := by
  intro es
  induction es with
  | nil => intro m; simp
  | cons e es ih =>
    intro m
    rw [List.foldl_cons, ih]
    by_cases hb : Region.binds .any e = true
    · simp only [hb, if_true, Nat.testBit_or, Bool.or_eq_true, Nat.one_shiftLeft, Nat.testBit_two_pow, decide_eq_true_eq, List.mem_cons, exists_eq_or_imp, true_and]
      constructor
      · rintro (((h | h) | h) | h)
        · exact .inl h
        · exact .inr (.inl (.inl h.symm))
        · exact .inr (.inl (.inr h))
        · exact .inr (.inr h)
      · rintro (h | (h | h) | h)
        · exact .inl (.inl (.inl h))
        · exact .inl (.inl (.inr h.symm))
        · exact .inl (.inr h)
        · exact .inr h
    · simp only [hb, Bool.false_eq_true, if_false, List.mem_cons, exists_eq_or_imp, false_and, false_or]

theorem maskOf_bit (acc : List Nat) (o : Oper) (j : Nat) : (maskOf acc o).testBit j = true ↔ ∃ e ∈ o.after, Region.binds .any e = true ∧ (j = e.on ∨ (acc.getD e.on 0).testBit j = true) := by
  unfold maskOf
  rw [foldl_bit]
  simp

theorem masksD_get : ∀ (os : List Oper) (acc : List Nat) (i : Nat), i < acc.length → (masksD acc os)[i]? = acc[i]? := by
  intro os
  induction os with
  | nil => intro acc i hi; rfl
  | cons o os ih =>
    intro acc i hi
    simp only [masksD]
    rw [ih _ i (by simp; omega), List.getElem?_append_left hi]

theorem masksD_at : ∀ (os : List Oper) (acc : List Nat) (i : Nat) (o : Oper), os[i]? = some o →
    ∃ acc', (masksD acc os)[acc.length + i]? = some (maskOf acc' o) ∧ acc'.length = acc.length + i ∧ ∀ j, j < acc'.length → (masksD acc os)[j]? = acc'[j]? := by
  intro os
  induction os with
  | nil => intro acc i o h; simp at h
  | cons p os ih =>
    intro acc i o h
    cases i with
    | zero =>
      simp at h
      subst h
      refine ⟨acc, ?_, rfl, fun j hj => ?_⟩
      · simp only [masksD]
        rw [masksD_get _ _ _ (by simp)]
        simp
      · simp only [masksD]
        rw [masksD_get _ _ _ (by simp; omega), List.getElem?_append_left hj]
    | succ i =>
      simp at h
      obtain ⟨acc', h1, h2, h3⟩ := ih (acc ++ [maskOf acc p]) i o h
      refine ⟨acc', ?_, by rw [h2]; simp; omega, h3⟩
      simp only [masksD]
      rw [← h1]
      congr 1
      simp
      omega

section
variable {E : Env} {ops : Array Oper}

/-- What the static look at a region says. -/
structure DrawFacts (E : Env) (ops : Array Oper) : Prop where
  low : ∀ (i : Nat) (o : Oper), ops[i]? = some o → ∀ e ∈ o.after, Region.binds .any e = true → e.on < i
  bit : ∀ (i : Nat) (o : Oper), ops[i]? = some o → ∀ j, ((masksD [] ops.toList).getD i 0).testBit j = true ↔ ∃ e ∈ o.after, Region.binds .any e = true ∧ (j = e.on ∨ ((masksD [] ops.toList).getD e.on 0).testBit j = true)
  lt : ∀ (i j : Nat), i < ops.size → ((masksD [] ops.toList).getD i 0).testBit j = true → j < i
  pass : ∀ (x y : Nat) (ox oy : Oper), ops[x]? = some ox → ops[y]? = some oy → x < y → ((masksD [] ops.toList).getD y 0).testBit x = true ∨ mayPass E ops ox oy = true

theorem drawOK_facts (h : drawOK E ops = true) : DrawFacts E ops := by
  unfold drawOK at h
  simp only [List.all_eq_true, List.mem_range] at h
  have hlow : ∀ (i : Nat) (o : Oper), ops[i]? = some o → ∀ e ∈ o.after, Region.binds .any e = true → e.on < i := by
    intro i o ho e he
    have := h i (Array.getElem?_eq_some_iff.1 ho).1
    simp only [ho, Bool.and_eq_true, Array.all_eq_true_iff_forall_mem, Bool.or_eq_true, Bool.not_eq_true', decide_eq_true_eq] at this
    intro hb
    rcases this.1 e he with hh | hh
    · rw [hb] at hh; cases hh
    · exact hh
  have hbit : ∀ (i : Nat) (o : Oper), ops[i]? = some o → ∀ j, ((masksD [] ops.toList).getD i 0).testBit j = true ↔ ∃ e ∈ o.after, Region.binds .any e = true ∧ (j = e.on ∨ ((masksD [] ops.toList).getD e.on 0).testBit j = true) := by
    intro i o ho j
    obtain ⟨acc', h1, h2, h3⟩ := masksD_at ops.toList [] i o (by simpa using ho)
    simp only [List.length_nil, Nat.zero_add] at h1 h2
    have hi : (masksD [] ops.toList).getD i 0 = maskOf acc' o := by simp [List.getD, h1]
    rw [hi, maskOf_bit]
    constructor
    · rintro ⟨e, he, hb, hj⟩
      refine ⟨e, he, hb, ?_⟩
      have := h3 e.on (by rw [h2]; exact hlow i o ho e he hb)
      rcases hj with hj | hj
      · exact .inl hj
      · right; simp only [List.getD] at hj ⊢; rw [this]; exact hj
    · rintro ⟨e, he, hb, hj⟩
      refine ⟨e, he, hb, ?_⟩
      have := h3 e.on (by rw [h2]; exact hlow i o ho e he hb)
      rcases hj with hj | hj
      · exact .inl hj
      · right; simp only [List.getD] at hj ⊢; rw [← this]; exact hj
  refine ⟨hlow, hbit, ?_, ?_⟩
  · intro i
    induction i using Nat.strongRecOn with
    | _ i ih =>
      intro j hi hj
      have ho : ops[i]? = some ops[i] := by simp [hi]
      obtain ⟨e, he, hb, hh⟩ := (hbit i _ ho j).1 hj
      have hlt := hlow i _ ho e he hb
      rcases hh with hh | hh
      · omega
      · have := ih e.on hlt j (by omega) hh
        omega
  · intro x y ox oy hx hy hxy
    have := h y (Array.getElem?_eq_some_iff.1 hy).1
    simp only [hy, Bool.and_eq_true, List.all_eq_true, List.mem_range, Bool.or_eq_true] at this
    have := this.2 x hxy
    simp only [hx] at this
    exact this

end

/-! ### any order -/

section
variable {call : CallF} {E : Env} {ops : Array Oper} {ms : List Nat} {base m : Nat}

theorem stepsR_pull {i : Nat} {r : St} : ∀ (M1 M2 : List Nat) (st : St), (∀ y ∈ M1, ∀ st st1 st2, stepR call E ops ms base m y st = some st1 → stepR call E ops ms base m i st1 = some st2 →
      ∃ st1', stepR call E ops ms base m i st = some st1' ∧ stepR call E ops ms base m y st1' = some st2) →
    stepsR call E ops ms base m (M1 ++ i :: M2) st = some r → ∃ st1, stepR call E ops ms base m i st = some st1 ∧ stepsR call E ops ms base m (M1 ++ M2) st1 = some r := by
  intro M1
  induction M1 with
  | nil =>
    intro M2 st _ h
    simp only [List.nil_append, stepsR] at h
    cases h1 : stepR call E ops ms base m i st with
    | none => simp [h1] at h
    | some st1 => simp only [h1] at h; exact ⟨st1, rfl, h⟩
  | cons y M1 ih =>
    intro M2 st hsw h
    simp only [List.cons_append, stepsR] at h
    cases h1 : stepR call E ops ms base m y st with
    | none => simp [h1] at h
    | some sa =>
      simp only [h1] at h
      obtain ⟨sb, h2, h3⟩ := ih M2 sa (fun z hz => hsw z (List.mem_cons_of_mem _ hz)) h
      obtain ⟨sc, h4, h5⟩ := hsw y (by simp) st sa sb h1 h2
      exact ⟨sc, h4, by simp only [List.cons_append, stepsR, h5]; exact h3⟩

theorem stepR_ok {B : Nat} {w0 : Start} {σ : Sg} {P : Program} {st st' : St} {a : Act} {w : World} (hE : EnvOK E) (hP : E.P = P) (hcall : CallOK P E B w0 call) {i : Nat} (h : Rel E B w0 σ st a w) (hs : stepR call E ops ms base m i st = some st')
    {K : Act → World → Prop} {Q : Exit → Act → World → Prop} (hn : ∀ a' w' σ', Rel E B w0 σ' st' a' w' → Ext σ w σ' w' → K a' w') : wpOp P ops Q i K a w := by
  have hat : ∃ k, freeB st.H k = true ∧ stepAt call E ops k i st = some st' := by
    unfold stepR at hs
    cases ho : ops[i]? with
    | none =>
      simp only [ho] at hs
      exact ⟨st.H.length, freeB_end _, by unfold stepAt; simp only [ho]; exact hs⟩
    | some o =>
      simp only [ho] at hs
      split at hs
      · split at hs
        · split at hs
          · rename_i b hb
            split at hs
            · cases hs
            · rename_i hl
              exact ⟨base + i, by unfold freeB; simp only [hb]; simpa using hl, hs⟩
          · cases hs
        · exact ⟨st.H.length, freeB_end _, hs⟩
      · cases hs
  obtain ⟨k, hk, hat⟩ := hat
  exact stepAt_ok hE hP hcall hk h hat hn

theorem wpAny_ok {B : Nat} {w0 : Start} {P : Program} {r : St} (hE : EnvOK E) (hP : E.P = P) (hcall : CallOK P E B w0 call) (hpure : PureOK E call) (hf : DrawFacts E ops) (hm : ∀ (i : Nat) (o : Oper), ops[i]? = some o → clsOf E o = .a → i < m)
    {Q : Exit → Act → World → Prop} : ∀ (fuel : Nat) (M : List Nat) (listed : Array Bool) (st : St) (σ : Sg) (a : Act) (w : World), M.length ≤ fuel → listed.size = ops.size →
    (∀ j, j ∈ M ↔ listed.getD j true = false) → M.Pairwise (· < ·) → (∀ k j, listed.getD k false = true → ((masksD [] ops.toList).getD k 0).testBit j = true → listed.getD j false = true) →
    stepsR call E ops (masksD [] ops.toList) base m M st = some r → Rel E B w0 σ st a w → (∀ a' w' σ', Rel E B w0 σ' r a' w' → Ext σ w σ' w' → Q .normal a' w') → wpAny P .any ops Q fuel listed a w := by
  intro fuel
  induction fuel with
  | zero =>
    intro M listed st σ a w hl hsz hM hsort hdown hs hr hn
    have hnil : M = [] := List.eq_nil_of_length_eq_zero (by omega)
    subst hnil
    simp only [stepsR, Option.some.injEq] at hs
    subst hs
    refine ⟨?_, hn a w σ hr (Ext.refl σ w)⟩
    cases hrd : Region.ready .any ops listed with
    | nil => rfl
    | cons i rest =>
      have hi : i ∈ Region.ready .any ops listed := by rw [hrd]; simp
      have := (hM i).2 (mem_ready.1 hi).1
      cases this
  | succ fuel ih =>
    intro M listed st σ a w hl hsz hM hsort hdown hs hr hn
    have hlist : ∀ j, j < ops.size → j ∉ M → listed.getD j false = true := by
      intro j hj hn
      have : ¬ listed.getD j true = false := fun h => hn ((hM j).2 h)
      have hjl : j < listed.size := by omega
      simp [hjl] at this ⊢
      exact this
    refine ⟨fun hready => ?_, fun i hi => ?_⟩
    · -- nothing is ready: nothing is left
      cases M with
      | nil =>
        simp only [stepsR, Option.some.injEq] at hs
        subst hs
        exact hn a w σ hr (Ext.refl σ w)
      | cons i rest =>
        exfalso
        have hun := (hM i).1 (by simp)
        have hilt : i < ops.size := by
          rcases Nat.lt_or_ge i listed.size with h | h
          · omega
          · simp [Array.getElem?_eq_none h] at hun
        have ho : ops[i]? = some ops[i] := by simp [hilt]
        have : i ∈ Region.ready .any ops listed := mem_ready.2 ⟨hun, _, ho, fun e he hb => by
          have hlt := hf.low i _ ho e he hb
          refine hlist e.on (by omega) (fun hin => ?_)
          rcases List.mem_cons.1 hin with h | h
          · omega
          · have := (List.pairwise_cons.1 hsort).1 _ h
            omega⟩
        rw [hready] at this
        cases this
    · obtain ⟨hun, oi, hoi, hall⟩ := mem_ready.1 hi
      have hin := (hM i).2 hun
      obtain ⟨M1, M2, rfl⟩ := List.append_of_mem hin
      have hilt : i < ops.size := (Array.getElem?_eq_some_iff.1 hoi).1
      have hM1 : ∀ y ∈ M1, y < i := fun y hy => (List.pairwise_append.1 hsort).2.2 y hy i (by simp)
      have hmask : ∀ j, ((masksD [] ops.toList).getD i 0).testBit j = true → listed.getD j false = true := by
        intro j hj
        obtain ⟨e, he, hb, hh⟩ := (hf.bit i oi hoi j).1 hj
        rcases hh with hh | hh
        · rw [hh]; exact hall e he hb
        · exact hdown e.on j (hall e he hb) hh
      have hunl : ∀ y, listed.getD y true = false → listed.getD y false = false := by
        intro y hy
        rcases Nat.lt_or_ge y listed.size with h | h
        · simp [h] at hy ⊢; exact hy
        · simp [Array.getElem?_eq_none h] at hy
      obtain ⟨st1, h1, h2⟩ := stepsR_pull M1 M2 st (fun y hy sa sb sc hsa hsb => by
        have hyun : listed.getD y true = false := (hM y).1 (by simp [hy])
        have hylt : y < ops.size := by have := hM1 y hy; omega
        have hoy : ops[y]? = some ops[y] := by simp [hylt]
        have hbit : ((masksD [] ops.toList).getD i 0).testBit y = false := by
          cases hb : ((masksD [] ops.toList).getD i 0).testBit y with
          | false => rfl
          | true => have := hmask y hb; rw [hunl y hyun] at this; cases this
        have hbit' : ((masksD [] ops.toList).getD y 0).testBit i = false := by
          cases hb : ((masksD [] ops.toList).getD y 0).testBit i with
          | false => rfl
          | true => have := hf.lt y i hylt hb; have := hM1 y hy; omega
        have hp := (hf.pass y i _ oi hoy hoi (hM1 y hy)).resolve_left (by rw [hbit]; simp)
        exact stepR_swap hpure hm hoy hoi (by have := hM1 y hy; omega) hp hbit hbit' hsa hsb) hs
      refine stepR_ok hE hP hcall hr h1 (fun a1 w1 σ1 hr1 he1 => ?_)
      have hget : ∀ j d, (listed.setIfInBounds i true).getD j d = if j = i then true else listed.getD j d := by
        intro j d
        by_cases hji : j = i
        · subst hji
          have : j < listed.size := by omega
          simp [this]
        · rw [if_neg hji, getD_set_ne d (fun e => hji e.symm)]
      have hnot : i ∉ M1 ++ M2 := by
        intro h
        rcases List.mem_append.1 h with h | h
        · have := hM1 i h; omega
        · have := (List.pairwise_cons.1 (List.pairwise_append.1 hsort).2.1).1 i h; omega
      refine ih (M1 ++ M2) (listed.setIfInBounds i true) st1 σ1 a1 w1 (by simp at hl ⊢; omega) (by simpa using hsz) (fun j => ?_) ?_ (fun k j hk hj => ?_) h2 hr1 (fun a' w' σ' hr' he' => hn a' w' σ' hr' (he1.trans he'))
      · rw [hget]
        by_cases hji : j = i
        · subst hji
          rw [if_pos rfl]
          exact ⟨fun h => absurd h hnot, fun h => by cases h⟩
        · rw [if_neg hji, ← hM j]
          simp [hji]
      · exact hsort.sublist (List.Sublist.append_left (List.sublist_cons_self i M2) M1)
      · rw [hget] at hk ⊢
        by_cases hji : j = i
        · rw [if_pos hji]
        · rw [if_neg hji]
          by_cases hki : k = i
          · subst hki; exact hmask j hj
          · rw [if_neg hki] at hk
            exact hdown k j hk hj

/-- Places are kept at the end of the boxes. -/
theorem Inv.reserve {B : Nat} {w0 : Start} {σ : Sg} {H : Heap} {w : World} (h : Inv B w0 σ H w) (n : Nat) : Inv B w0 σ (H ++ List.replicate n deadBox) w := by
  have hold : ∀ (i : Nat) (b : Box), (H ++ List.replicate n deadBox)[i]? = some b → b.live = true → H[i]? = some b := by
    intro i b hb hl
    rw [List.getElem?_append] at hb
    split at hb
    · exact hb
    · have := (List.mem_replicate.1 (List.mem_of_getElem? hb)).2
      subst this
      cases hl
  refine ⟨h.below, h.size, fun id L hL => ?_, fun i b hb hl => h.boxes i b (hold i b hb hl) hl, fun i j b1 b2 L1 L2 g h1 h2 l1 l2 => h.apart i j b1 b2 L1 L2 g (hold i b1 h1 l1) (hold j b2 h2 l2) l1 l2, h.cells,
    fun b c hc i bx L hb hl => h.floor b c hc i bx L (hold i bx hb hl) hl, fun i b hb hl => h.low i b (hold i b hb hl) hl, h.old⟩
  obtain ⟨b, h1, h2⟩ := h.dom id L hL
  exact ⟨b, by rw [List.getElem?_append_left (List.getElem?_eq_some_iff.1 h1).1]; exact h1, h2⟩

theorem draw_ok {B : Nat} {w0 : Start} {σ : Sg} {P : Program} {st st' : St} {a : Act} {w : World} (hE : EnvOK E) (hP : E.P = P) (hmix : P.follows .mixedOrders = true) (hcall : CallOK P E B w0 call) (hpure : PureOK E call) (hd : drawOK E ops = true)
    (h : Rel E B w0 σ st a w) (hs : drawD call E ops st = some st') {id : Nat} {Q : Exit → Act → World → Prop} (hn : ∀ a' w' σ', Rel E B w0 σ' st' a' w' → Ext σ w σ' w' → Q .normal a' w') : (Code.region id ops true).wp P Q a w := by
  have hg : w.grownBy { w with drawn := w.drawn + 1 } none := ⟨rfl, rfl, rfl, Nat.le_refl _, fun _ _ _ => rfl⟩
  obtain ⟨hI, hEx⟩ := h.inv.grown hg
  refine wp_region_any hmix ?_
  unfold drawD at hs
  refine wpAny_ok hE hP hcall hpure (drawOK_facts hd) (m := if ops.any (fun o => decide (clsOf E o = .a)) then ops.size else 0) (fun i o ho hc => ?_) ops.size (List.range ops.size) _ _ σ a _ (by simp) (by simp) (fun j => ?_) List.pairwise_lt_range (fun k j hk => ?_) hs
    ⟨hI.reserve _, h.glob.ext hEx, h.slots.ext hEx, h.calm⟩ (fun a' w' σ' hr he => hn a' w' σ' hr (hEx.trans he))
  · have : ops.any (fun o => decide (clsOf E o = .a)) = true := Array.any_eq_true'.2 ⟨o, Array.mem_of_getElem? ho, by simpa using hc⟩
    rw [if_pos this]
    exact (Array.getElem?_eq_some_iff.1 ho).1
  · rw [List.mem_range]
    rcases Nat.lt_or_ge j ops.size with hj | hj
    · simp [hj]
    · simp [Nat.not_lt.2 hj]
  · exfalso
    rcases Nat.lt_or_ge k ops.size with hj | hj
    · simp [hj] at hk
    · simp [hj] at hk

end

end Go.Proofs.Ytcjccaonfgcakaa.Le
