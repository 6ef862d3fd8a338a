/-
  An evaluator for the model's code over pure values: append and make.
-/
import Derived.Test.YtcjccaonfgcakaaLe7
namespace Go.Proofs.Ytcjccaonfgcakaa.Le
set_option linter.unusedVariables false
open Go.RowKit (Below)

/-- What an appended (or copied) slice shows. -/
structure Src (σ : Sg) (w : World) (n : Nat) (ys : List V) (us : List Value) (v : Value) : Prop where
  reps : Reps σ w ys us
  oks : ∀ x ∈ ys, fzV x = true
  sizes : ∀ u ∈ us, u.cells.size = n
  ones : ∀ u ∈ flat us, u.oneCell' = true
  val : ((v = .slice none 0 0 ∨ ∃ a k, v = .slice (some a) 0 k) ∧ ys = [] ∧ us = []) ∨ ∃ b o c, v = .slice (some ⟨b, o, none⟩) ys.length c ∧ ys.length ≤ c ∧ ∀ j u, (flat us)[j]? = some u → w.cell? ⟨b, o + j, none⟩ = some u

theorem Src.ext {σ w n ys us v σ'} (h : Src σ w n ys us v) (e : Ext σ w σ' w) : Src σ' w n ys us v := ⟨h.reps.ext e, h.oks, h.sizes, h.ones, h.val⟩

theorem src_ok {B w0 σ H w} (h : Inv B w0 σ H w) {x : V} {v : Value} {ys : List V} {n : Nat} (hr : Reps σ w [x] [v]) (he : elemsOf H x = some ys) (hn : eszIs H x n = true) :
    ∃ us, Src σ w n ys us v := by
  unfold elemsOf at he
  split at he
  · simp only [Option.some.injEq] at he
    subst he
    cases hr with
    | slnil _ => exact ⟨[], .nil, by simp, by simp, by simp [flat], .inl ⟨.inl rfl, rfl, rfl⟩⟩
    | slemp a _ => exact ⟨[], .nil, by simp, by simp, by simp [flat], .inl ⟨.inr ⟨a, 0, rfl⟩, rfl, rfl⟩⟩
    | sl b o c e k0 k1 k2 k3 k4 k5 k6 k7 =>
      simp only [eszIs, Bool.false_or, beq_iff_eq] at hn
      subst hn
      exact ⟨_, k0, k1, k2, k3, .inr ⟨b, o, c, rfl, k4, fun j u hu => (k6 j u hu).2⟩⟩
  · simp only [Option.some.injEq] at he
    subst he
    cases hr with
    | sltnil _ => exact ⟨[], .nil, by simp, by simp, by simp [flat], .inl ⟨.inl rfl, rfl, rfl⟩⟩
    | sltemp a _ => exact ⟨[], .nil, by simp, by simp, by simp [flat], .inl ⟨.inr ⟨a, 0, rfl⟩, rfl, rfl⟩⟩
    | slt b o e k0 k1 k2 k3 k4 k5 k6 =>
      simp only [eszIs, Bool.false_or, beq_iff_eq] at hn
      subst hn
      exact ⟨_, k0, k1, k2, k3, .inr ⟨b, o, _, rfl, Nat.le_refl _, fun j u hu => (k5 j u hu).2⟩⟩
  · rename_i id off len tot
    split at he
    · rename_i b hb
      split at he
      · rename_i hc
        simp only [Bool.and_eq_true, decide_eq_true_eq] at hc
        simp only [Option.some.injEq] at he
        subst he
        obtain ⟨L, us, m, hxl, hol, hs, hview⟩ := lsl_view h hr hb
        simp only [eszIs, hb, beq_iff_eq] at hn
        have hn' : L.esz = n := by rw [← m.esz]; exact hn
        subst hn'
        have hlen : ((b.xs.drop off).take len).length = len := by simp; omega
        refine ⟨(us.drop off).take len, reps_sub m.reps off len, fun x hx => m.fz hc.1 x (List.mem_of_mem_drop (List.mem_of_mem_take hx)), sizes_take (sizes_drop m.sizes off) len, one_take (one_drop m.ones off) len, ?_⟩
        rcases hview with ⟨hv, hvv, ho, hl, ht⟩ | ⟨g, cap, k, hv, hvv, hle, hmx, hk1, hk2⟩
        · left
          subst hl
          exact ⟨.inl hvv, by simp, by simp⟩
        · right
          refine ⟨g, k * L.esz, cap - off, by rw [hlen]; exact hvv, by rw [hlen]; omega, ?_⟩
          intro j u hu
          rw [flat_sub m.sizes] at hu
          have hj : j < len * L.esz := by
            have := (List.getElem?_eq_some_iff.1 hu).1
            simp at this
            omega
          rw [List.getElem?_take, if_pos hj, List.getElem?_drop] at hu
          have hlpos : 0 < len := by
            cases len with
            | zero => simp at hj
            | succ n => omega
          have hk : k = off := hk2 (by omega)
          subst hk
          exact m.cell (g := g) (by rw [hv]; rfl) _ _ hu
      · cases he
    · cases he
  · simp [eszIs] at hn
  · cases he

/-- Nothing is appended. -/
theorem run_append_zero {P : Program} (w : World) (t ty e : TypeId) (i : TypeInfo) (ht : P.underlying t = some (.slice e)) (hi : P.info? e = some i) (a : Option Addr) (n c : Nat) (hn : n ≤ c) (x : Value) (hx : x = .slice none 0 0 ∨ ∃ b k, x = .slice (some b) 0 k) :
    (Builtin.append_ #[t, t] ty #[.slice a n c, x]).run P w = .ok (.slice a n c) w := by
  rcases hx with rfl | ⟨b, k, rfl⟩
  · cases a <;> simp [Builtin.append_, run_underlying ht, sizeOf, typeInfo, hi, Builtin.lenOf, Builtin.firstCells, loadCells, hn, storeCells]
  · cases a <;> simp [Builtin.append_, run_underlying ht, sizeOf, typeInfo, hi, Builtin.lenOf, Builtin.firstCells, loadCells, loadCellsFrom, hn, storeCells]

/-- Something is appended to a row that is owned: the row is written behind its end, or a new one is made. -/
theorem run_append_more {P : Program} (w : World) (base : Nat) (t ty e : TypeId) (i : TypeInfo) (z : Value) (size : Nat) (ht : P.underlying t = some (.slice e)) (hi : P.info? e = some i) (hz : i.zero = some z)
    (hsize : i.size = size) (hzs : z.cells.size = size)
    (v : Value) (n : Nat) (xs : List Value) (hown : w.ownsRow base e size v n xs)
    (a : Addr) (m c : Nat) (news : List Value) (hl : news.length = m * size) (hnews : ∀ j u, news[j]? = some u → w.cell? (a.add j) = some u) (h1 : ∀ u ∈ news, u.oneCell' = true) (hm : 0 < m)
    (h63 : n + m ≤ maxLen) (hbytes : (n + m) * i.bytes ≤ 140737488355328) (hbase : base ≤ w.heap.size) :
    ∃ v' w', (Builtin.append_ #[t, t] ty #[v, .slice (some a) m c]).run P w = .ok v' w' ∧ w'.ownsRow base e size v' (n + m) (xs ++ news) ∧ w.grownBy w' v.ownBlock ∧
      v' ≠ .slice none 0 0 ∧ (∀ g, v'.ownBlock = some g → v.ownBlock = some g ∨ w.heap.size ≤ g) ∧
      (∀ g j, v.ownBlock = some g → j < n * size → w'.cell? ⟨g, j, none⟩ = w.cell? ⟨g, j, none⟩) := by
  subst hsize
  have hsmall : n + m ≤ 9223372036854775807 := by simp only [maxLen] at h63; omega
  have hlen : (xs ++ news).length = (n + m) * i.size := by rw [List.length_append, hown.1, hl, Nat.add_mul]
  have grown : ∀ (old : Nat), old < n + m → ∀ (row : Option Nat),
      (w.drew.alloc (.cells (xs.toArray ++ news.toArray ++ Builtin.zeroCells z.cells (grownCap w (n + m) old e - (n + m))) e)).ownsRow base e i.size
        (.slice (some ⟨w.heap.size, 0, none⟩) (n + m) (grownCap w (n + m) old e)) (n + m) (xs ++ news) ∧
      w.grownBy (w.drew.alloc (.cells (xs.toArray ++ news.toArray ++ Builtin.zeroCells z.cells (grownCap w (n + m) old e - (n + m))) e)) row := by
    intro old ho row
    have hge := grownCap_ge w (n + m) old e
    have hcm : grownCap w (n + m) old e ≤ maxLen := grownCap_le_maxLen w (n + m) old e h63
    refine ⟨⟨hlen, .inr ⟨w.heap.size, _, _, rfl, hbase, heap_alloc_new w.drew _, hge, hcm, ?_, ?_⟩⟩, ⟨rfl, rfl, rfl, by simp, fun k hk _ => heap_alloc_old w.drew _ hk⟩⟩
    · simp only [Array.size_append, List.size_toArray, size_zeroCells, hzs, hown.1, hl, ← Nat.add_mul]
      congr 1
      omega
    · simp only [Array.toList_append, List.append_assoc]
      rw [← List.append_assoc, ← hlen]
      exact List.take_left
  have hnew : ∀ g n c, (Value.slice (some ⟨w.heap.size, 0, none⟩) n c).ownBlock = some g → w.heap.size ≤ g := by
    intro g n c hg
    simp [Value.ownBlock] at hg
    omega
  rcases hown.2 with ⟨rfl, rfl⟩ | ⟨g, cap, cur, rfl, hbg, hg, hnc, hcm, hcs, htake⟩
  · have hx : xs = [] := List.eq_nil_of_length_eq_zero (by simpa using hown.1)
    subst hx
    have hr := run_append_nil (P := P) w t ty e i z ht hi hz a m c news hl hnews hm (by omega) (by have hb := hbytes; simp only [Nat.zero_add] at hb; omega)
    have hgr := grown 0 (by omega) (Value.ownBlock (.slice none 0 0))
    simp only [Nat.zero_add, List.nil_append, Array.empty_append] at hgr ⊢
    exact ⟨_, _, hr, hgr.1, hgr.2, by simp, fun g hg => .inr (hnew g _ _ hg), fun g j hg => by simp [Value.ownBlock] at hg⟩
  · by_cases hroom : n + m ≤ cap
    · have hfit : n * i.size + news.length ≤ cur.size := by rw [hl, hcs, ← Nat.add_mul]; exact Nat.mul_le_mul_right _ hroom
      have hr := run_append_room (P := P) w t ty e i ht hi g n cap cur hg a m c news hl hnews h1 hroom hfit
      refine ⟨_, _, hr, ⟨hlen, .inr ⟨g, cap, _, rfl, hbg, setRow_heap w g cur _ e _ hg, hroom, hcm, ?_, ?_⟩⟩, ⟨rfl, rfl, rfl, by simp, fun k _ hk => setRow_other w g k _ (fun e => hk (by simp [Value.ownBlock, e]))⟩, by simp, fun g' hg' => .inl hg', ?_⟩
      · simp only [List.size_toArray, List.length_append, List.length_take, List.length_drop, Array.length_toList]
        omega
      · rw [htake, ← hlen]
        exact List.take_left
      · intro g' j hg' hj
        simp only [Value.ownBlock, Option.some.injEq] at hg'
        subst hg'
        rw [cell_setRow_same w g j cur _ e (0, 0) hg, cell_of_row w g j cur e (0, 0) hg]
        rw [List.getElem?_toArray, ← Array.getElem?_toList]
        have hjc : j < cur.size := by have := Nat.mul_le_mul_right i.size hnc; omega
        have hlt : j < (cur.toList.take (n * i.size)).length := by simp; omega
        rw [List.append_assoc, List.getElem?_append_left hlt, List.getElem?_take, if_pos hj]
    · have holds : ∀ j u, xs[j]? = some u → w.cell? ((⟨g, 0, none⟩ : Addr).add j) = some u := hown.cells (g := g) rfl
      have hr := run_append_grow (P := P) w t ty e i z ht hi hz ⟨g, 0, none⟩ n cap xs hown.1 holds a m c news hl hnews (by omega) (by omega) (growslice_fits (by omega) hbytes)
      have hgr := grown cap (by omega) (Value.ownBlock (.slice (some ⟨g, 0, none⟩) n cap))
      refine ⟨_, _, hr, hgr.1, hgr.2, by simp, fun g' hg' => .inr (hnew g' _ _ hg'), ?_⟩
      intro g' j hg' hj
      simp only [Value.ownBlock, Option.some.injEq] at hg'
      subst hg'
      exact World.cell?_of_block (heap_alloc_old w.drew _ (by simpa using (World.ownsRow.lt hown g rfl).2))

theorem tyOf_slice {d : TypeDesc} {e : Nat} (h : Ty.slice e = tyOf d) : d = .slice e := by
  cases d <;> simp [tyOf] at h
  rw [h]

theorem list_set_self {α : Type} (l : List α) (i : Nat) (x : α) (h : l[i]? = some x) : l.set i x = l := by
  apply List.ext_getElem?
  intro j
  rw [List.getElem?_set]
  split
  · rename_i e
    subst e
    split
    · exact h.symm
    · rename_i hl; rw [List.getElem?_eq_none (by omega)]
  · rfl

theorem ownBlock_ne {v : Value} {B e size n xs} {w : World} (h : w.ownsRow B e size v n xs) (hne : v ≠ .slice none 0 0) : ∃ g cap, v = .slice (some ⟨g, 0, none⟩) n cap := by
  rcases h.2 with ⟨hv, _⟩ | ⟨g, cap, cur, hv, _⟩
  · exact absurd hv hne
  · exact ⟨g, cap, hv⟩

/-- A row that was just made becomes a box. -/
theorem push_ok {B w0 σ H w w'} (h : Inv B w0 σ H w) {k : Nat} (hk0 : freeB H k = true) (hg : w.grownBy w' none) {xs : List V} {us : List Value} {e esz : Nat} {v' : Value} (hr : Reps σ w xs us) (hk : ∀ x ∈ xs, fzV x = true)
    (hs : ∀ u ∈ us, u.cells.size = esz) (ho : ∀ u ∈ flat us, u.oneCell' = true) (hown : w'.ownsRow B e esz v' xs.length (flat us)) (hnew : ∀ g, v'.ownBlock = some g → w.heap.size ≤ g) (np : Bool) (hnp : np = true → v' = .slice none 0 0) :
    ∃ σ', Inv B w0 σ' (place H k (newBox true np e esz xs)) w' ∧ Ext σ w σ' w' ∧ Reps σ' w' [.lsl k 0 xs.length xs.length] [v'] := by
  obtain ⟨h1, h2⟩ := h.push hg hk0 (newBox true np e esz xs) rfl ⟨v', xs.length, esz⟩ (by simp [newBox]) hnew (fun ex => ⟨rfl, ⟨us, hr.ext ex, hs, ho, by simpa [newBox] using hown⟩, by simpa [newBox] using hnp, rfl, fzV_oks hk, fun _ x hx => fzV_noRef (hk x hx)⟩)
  have hval : ∃ a n c, v' = .slice a n c ∧ n = xs.length ∧ n ≤ c := by
    rcases hown.2 with ⟨hv, hn⟩ | ⟨g, cap, cur, hv, _, _, hnc, _⟩
    · exact ⟨none, 0, 0, hv, hn.symm, Nat.le_refl _⟩
    · exact ⟨_, _, cap, hv, rfl, hnc⟩
  obtain ⟨a, n, c, hv, hn, hnc⟩ := hval
  refine ⟨_, h1, h2, .lsl (L := ⟨v', xs.length, esz⟩) (by simp [Sg.put]) (Nat.le_refl _) (fun _ => ⟨by omega, a, n, c, 0, hv, ?_, Nat.zero_le _, Nat.le_refl _, fun _ => rfl⟩) ⟨a, n, c, hv⟩ .nil⟩
  subst hn
  rw [hv]
  cases a with
  | none => simp
  | some a => simp [Addr.add]

theorem append_ok {E B w0 σ H w} {P : Program} (hE : EnvOK E) (hP : E.P = P) (h : Inv B w0 σ H w) {k : Nat} (hk0 : freeB H k = true) {t u : TypeId} (ty : TypeId) {s x r : V} {sv xv : Value} {H' : Heap}
    (hs : Reps σ w [s] [sv]) (hx : Reps σ w [x] [xv]) (ha : appendD E k H t u s x = some (r, H')) :
    ∃ v' w' σ', (Builtin.append_ #[t, u] ty #[sv, xv]).run P w = .ok v' w' ∧ Inv B w0 σ' H' w' ∧ Ext σ w σ' w' ∧ Reps σ' w' [r] [v'] := by
  unfold appendD at ha
  split at ha
  · rename_i e sz by' z0 hti
    split at ha
    · rename_i ei ys hei hut hys
      have hut' : u = t := by simpa using hut
      subst hut'
      obtain ⟨inf, d, hi, hd, q1, q2, q3, q4⟩ := tiOf_some (hE.ti _ _ hti)
      have hd' : P.underlying u = some (.slice e) := by rw [hP] at hd; rw [hd, tyOf_slice q1]
      obtain ⟨infe, de, hie, hde, e1, e2, e3, e4⟩ := tiOf_some (hE.ti _ _ hei)
      rw [hP] at hie
      split at ha
      · rename_i hcond
        simp only [Bool.and_eq_true, decide_eq_true_eq] at hcond
        obtain ⟨⟨hpos, hesz⟩, hzok⟩ := hcond
        obtain ⟨us, src⟩ := src_ok h hx hys hesz
        have hsz : infe.size = ei.size := e2.symm
        obtain ⟨zv, hzv, hzs⟩ : ∃ zv, infe.zero = some zv ∧ zv.cells.size = ei.size := by
          unfold TI.zok at hzok
          cases hz : ei.zero with
          | none => simp [hz] at hzok
          | some z =>
            rw [hz] at e4 hzok
            cases hzz : infe.zero with
            | none => simp [hzz] at e4
            | some zv =>
              simp only [hzz, Option.map_some, Option.some.injEq] at e4
              simp only [Bool.and_eq_true, beq_iff_eq] at hzok
              refine ⟨zv, rfl, ?_⟩
              have := (ofConst_reps σ w zv).cells_len (by rw [← e4]; exact hzok.1)
              rw [← this, ← e4]
              exact hzok.2
        have hnews : (flat us).length = ys.length * ei.size := by rw [flat_length src.sizes, src.reps.length]
        -- what is appended, as the laws want it
        have hsrc : (ys = [] ∧ us = [] ∧ (xv = .slice none 0 0 ∨ ∃ b k, xv = .slice (some b) 0 k)) ∨ (0 < ys.length ∧ ∃ a c, xv = .slice (some a) ys.length c ∧ ∀ j u, (flat us)[j]? = some u → w.cell? (a.add j) = some u) := by
          rcases src.val with ⟨hv, hy, hu⟩ | ⟨b, o, c, hv, hc, hcell⟩
          · exact .inl ⟨hy, hu, hv⟩
          · cases hy : ys with
            | nil =>
              left
              subst hy
              exact ⟨rfl, src.reps.nil_left, .inr ⟨_, _, hv⟩⟩
            | cons y yl =>
              right
              refine ⟨by simp, ⟨b, o, none⟩, c, by rw [← hy]; exact hv, fun j u hj => by rw [Addr.add_mid]; exact hcell j u hj⟩
        split at ha
        · rename_i id off len tot
          split at ha
          · rename_i b hb
            split at ha
            · rename_i hc
              simp only [Bool.and_eq_true, beq_iff_eq, decide_eq_true_eq] at hc
              obtain ⟨⟨⟨⟨c1, c2⟩, c3⟩, c4⟩, c5⟩ := hc
              subst c3
              subst c4
              split at ha
              · rename_i hlim
                simp only [Bool.and_eq_true, decide_eq_true_eq] at hlim
                obtain ⟨l1, l2⟩ := hlim
                simp only [Option.some.injEq, Prod.mk.injEq] at ha
                obtain ⟨rfl, rfl⟩ := ha
                obtain ⟨L, vs, m, hxl, hol, hsub, hview⟩ := lsl_view h hs hb
                have hLe : L.esz = ei.size := by rw [← m.esz]; exact c5
                have hsv : sv = L.v ∧ ∃ a n c, L.v = .slice a n c ∧ n ≤ c := by
                  rcases hview with ⟨hv, hvv, ho, hl, ht⟩ | ⟨g, cap, k, hv, hvv, hle, hmx, hk1, hk2⟩
                  · exact ⟨hvv.trans hv.symm, _, _, _, hv, Nat.le_refl _⟩
                  · have : k = 0 := by omega
                    subst this
                    refine ⟨?_, _, _, _, hv, hle⟩
                    rw [hvv, hv]
                    simp
                obtain ⟨hsv, a, n, c, hLv, hnc⟩ := hsv
                rcases hsrc with ⟨hy, hu, hxv⟩ | ⟨hm, a', c', hxv, hcell⟩
                · subst hy
                  refine ⟨sv, w, σ, ?_, ?_, Ext.refl σ w, by simpa using hs⟩
                  · rw [hsv, hLv]
                    exact run_append_zero w u ty e infe hd' hie a n c hnc xv hxv
                  · have : H.set id { b with xs := b.xs ++ [], nilp := b.nilp && List.isEmpty ([] : List V) } = H := by
                      apply list_set_self
                      rw [m.hb]
                      cases b
                      simp
                    rw [this]
                    exact h
                · have hown := m.own
                  rw [hLe, c2] at hown
                  rw [hxl] at hown
                  obtain ⟨v', w', hrun, hown', hgr, hne, hnew, hkeep⟩ := run_append_more (P := P) w B u ty e infe zv ei.size hd' hie hzv hsz hzs L.v len (flat vs) hown a' ys.length c' (flat us) hnews hcell src.ones hm l2
                    (by rw [← e3]; exact l1) h.size
                  obtain ⟨h1, h2⟩ := h.upd m.hb m.live m.box hgr { b with xs := b.xs ++ ys, nilp := b.nilp && ys.isEmpty } m.live ⟨v', len + ys.length, L.esz⟩ rfl (.inr (by simp only [m.tot, hxl]; omega)) rfl (by simp)
                    hnew (fun g c0 hg hc0 => hkeep g c0 hg (by
                      rw [← hLe, ← hxl]
                      exact Nat.lt_of_lt_of_le hc0 (Nat.mul_le_mul_right _ (h.low id b m.hb m.live)))) (fun ex => by
                      refine ⟨by simp [hxl], ⟨vs ++ us, (m.reps.ext ex).append (src.reps.ext ex), ?_, ?_, ?_⟩, ?_, m.esz, ?_, fun hrow => ?_⟩
                      · intro y hy
                        rcases List.mem_append.1 hy with hy | hy
                        · exact m.sizes y hy
                        · rw [src.sizes y hy, hLe]
                      · intro y hy
                        rw [flat_append] at hy
                        rcases List.mem_append.1 hy with hy | hy
                        · exact m.ones y hy
                        · exact src.ones y hy
                      · rw [flat_append]
                        simp only [List.length_append, hxl, hLe, c2]
                        exact hown'
                      · have : ys.isEmpty = false := by cases ys <;> simp_all
                        simp [this, hne]
                      · intro y hy
                        rcases List.mem_append.1 hy with hy | hy
                        · exact m.oks y hy
                        · exact fzV_ok (src.oks y hy)
                      · intro y hy
                        rcases List.mem_append.1 hy with hy | hy
                        · exact m.fzs hrow y hy
                        · exact fzV_noRef (src.oks y hy))
                  obtain ⟨g, cap, hv'⟩ := ownBlock_ne hown' hne
                  refine ⟨v', w', _, by rw [hsv, hxv]; exact hrun, h1, h2, .lsl (L := ⟨v', len + ys.length, L.esz⟩) (by simp [Sg.put]) (Nat.le_refl _) (fun _ => ⟨by omega, _, _, _, 0, hv', ?_, Nat.zero_le _, Nat.le_refl _, fun _ => rfl⟩) ⟨_, _, _, hv'⟩ .nil⟩
                  rw [hv']
                  simp [Addr.add]
              · cases ha
            · cases ha
          · cases ha
        · -- nil
          split at ha
          · rename_i hlim
            simp only [Bool.and_eq_true, decide_eq_true_eq] at hlim
            obtain ⟨l1, l2⟩ := hlim
            simp only [Option.some.injEq, Prod.mk.injEq] at ha
            obtain ⟨rfl, rfl⟩ := ha
            have hsv : sv = .slice none 0 0 := by cases hs <;> rfl
            subst hsv
            rcases hsrc with ⟨hy, hu, hxv⟩ | ⟨hm, a', c', hxv, hcell⟩
            · subst hy
              subst hu
              obtain ⟨σ', h1, h2, h3⟩ := push_ok (e := e) (esz := ei.size) h hk0 (grownBy_refl w none) (xs := []) (us := []) .nil (by simp) (by simp) (by simp [flat]) (World.ownsRow_nil w B e ei.size) (by simp [Value.ownBlock]) false (by simp)
              exact ⟨_, w, σ', run_append_zero w u ty e infe hd' hie none 0 0 (Nat.le_refl _) xv hxv, h1, h2, h3⟩
            · obtain ⟨v', w', hrun, hown', hgr, hne, hnew, hkeep⟩ := run_append_more (P := P) w B u ty e infe zv ei.size hd' hie hzv hsz hzs (.slice none 0 0) 0 [] (World.ownsRow_nil w B e ei.size) a' ys.length c' (flat us) hnews hcell src.ones hm (by simpa using l2)
                (by rw [← e3]; simpa [lim] using l1) h.size
              simp only [Nat.zero_add, List.nil_append] at hown'
              obtain ⟨σ', h1, h2, h3⟩ := push_ok (e := e) (esz := ei.size) h hk0 hgr src.reps src.oks src.sizes src.ones hown' (fun g hg => by
                rcases hnew g hg with hh | hh
                · simp [Value.ownBlock] at hh
                · exact hh) false (by simp)
              exact ⟨v', w', σ', by rw [hxv]; exact hrun, h1, h2, h3⟩
          · cases ha
        · -- nil
          split at ha
          · rename_i hlim
            simp only [Bool.and_eq_true, decide_eq_true_eq] at hlim
            obtain ⟨l1, l2⟩ := hlim
            simp only [Option.some.injEq, Prod.mk.injEq] at ha
            obtain ⟨rfl, rfl⟩ := ha
            have hsv : sv = .slice none 0 0 := by cases hs <;> rfl
            subst hsv
            rcases hsrc with ⟨hy, hu, hxv⟩ | ⟨hm, a', c', hxv, hcell⟩
            · subst hy
              subst hu
              obtain ⟨σ', h1, h2, h3⟩ := push_ok (e := e) (esz := ei.size) h hk0 (grownBy_refl w none) (xs := []) (us := []) .nil (by simp) (by simp) (by simp [flat]) (World.ownsRow_nil w B e ei.size) (by simp [Value.ownBlock]) false (by simp)
              exact ⟨_, w, σ', run_append_zero w u ty e infe hd' hie none 0 0 (Nat.le_refl _) xv hxv, h1, h2, h3⟩
            · obtain ⟨v', w', hrun, hown', hgr, hne, hnew, hkeep⟩ := run_append_more (P := P) w B u ty e infe zv ei.size hd' hie hzv hsz hzs (.slice none 0 0) 0 [] (World.ownsRow_nil w B e ei.size) a' ys.length c' (flat us) hnews hcell src.ones hm (by simpa using l2)
                (by rw [← e3]; simpa [lim] using l1) h.size
              simp only [Nat.zero_add, List.nil_append] at hown'
              obtain ⟨σ', h1, h2, h3⟩ := push_ok (e := e) (esz := ei.size) h hk0 hgr src.reps src.oks src.sizes src.ones hown' (fun g hg => by
                rcases hnew g hg with hh | hh
                · simp [Value.ownBlock] at hh
                · exact hh) false (by simp)
              exact ⟨v', w', σ', by rw [hxv]; exact hrun, h1, h2, h3⟩
          · cases ha
        · -- a full slice
          rename_i es xs
          split at ha
          · rename_i hlim
            simp only [Bool.and_eq_true, decide_eq_true_eq, beq_iff_eq] at hlim
            obtain ⟨⟨l0, l1⟩, l2⟩ := hlim
            by_cases l3 : ys.isEmpty = true
            · rw [if_pos l3] at ha
              simp only [Option.some.injEq, Prod.mk.injEq] at ha
              obtain ⟨rfl, rfl⟩ := ha
              have hxz : xv = .slice none 0 0 ∨ ∃ b k, xv = .slice (some b) 0 k := by
                rcases hsrc with ⟨hy, hu, hxv⟩ | ⟨hm, a', c', hxv, hcell⟩
                · exact hxv
                · cases ys with
                  | nil => simp at hm
                  | cons y ys => simp at l3
              have hsv : ∃ a n, sv = .slice a n n := by
                cases hs with
                | sltnil _ => exact ⟨_, _, rfl⟩
                | sltemp a _ => exact ⟨_, _, rfl⟩
                | slt b o _ k0 k1 k2 k3 k4 k5 _ => exact ⟨_, _, rfl⟩
              obtain ⟨sa, sn, rfl⟩ := hsv
              exact ⟨_, w, σ, run_append_zero w u ty e infe hd' hie sa sn sn (Nat.le_refl _) xv hxz, h, Ext.refl σ w, hs⟩
            rw [if_neg l3] at ha
            simp only [Option.some.injEq, Prod.mk.injEq] at ha
            obtain ⟨rfl, rfl⟩ := ha
            cases hs with
            | sltnil _ =>
              rcases hsrc with ⟨hy, hu, hxv⟩ | ⟨hm, a', c', hxv, hcell⟩
              · subst hy; simp at l3
              · obtain ⟨v', w', hrun, hown', hgr, hne, hnew, hkeep⟩ := run_append_more (P := P) w B u ty e infe zv ei.size hd' hie hzv hsz hzs (.slice none 0 0) 0 [] (World.ownsRow_nil w B e ei.size) a' ys.length c' (flat us) hnews hcell src.ones hm (by simpa using l2)
                  (by rw [← e3]; simpa [lim] using l1) h.size
                simp only [Nat.zero_add, List.nil_append] at hown'
                obtain ⟨σ', h1, h2, h3⟩ := push_ok (e := e) (esz := ei.size) h hk0 hgr src.reps src.oks src.sizes src.ones hown' (fun g hg => by
                  rcases hnew g hg with hh | hh
                  · simp [Value.ownBlock] at hh
                  · exact hh) false (by simp [hne])
                exact ⟨v', w', σ', by rw [hxv]; exact hrun, by simpa using h1, h2, by simpa using h3⟩
            | sltemp sa _ =>
              rcases hsrc with ⟨hy, hu, hxv⟩ | ⟨hm, a', c', hxv, hcell⟩
              · subst hy; simp at l3
              · have hold : (flat []).length = 0 * infe.size := by simp [flat]
                have l2' : ys.length ≤ maxLen := by simpa using l2
                have hsmall : ys.length ≤ 9223372036854775807 := by simpa [maxLen] using l2'
                have hrun := run_append_grow (P := P) w u ty e infe zv hd' hie hzv sa 0 0 (flat []) hold (fun j u hj => by simp [flat] at hj) a' ys.length c' (flat us) (by rw [hnews, hsz]) hcell (by omega) (by omega)
                  (growslice_fits (by omega) (by rw [← e3]; simpa [lim] using l1))
                simp only [Nat.zero_add] at hrun
                have hge := grownCap_ge w ys.length 0 e
                have hcm : grownCap w ys.length 0 e ≤ maxLen := grownCap_le_maxLen w _ _ e l2'
                have hown : (w.drew.alloc (.cells ((flat []).toArray ++ (flat us).toArray ++ Builtin.zeroCells zv.cells (grownCap w ys.length 0 e - ys.length)) e)).ownsRow B e ei.size
                    (.slice (some ⟨w.heap.size, 0, none⟩) ys.length (grownCap w ys.length 0 e)) ys.length (flat us) := by
                  have hl : (flat us).length = ys.length * ei.size := by rw [hnews]
                  refine ⟨hl, .inr ⟨w.heap.size, _, _, rfl, h.size, heap_alloc_new w.drew _, hge, hcm, ?_, ?_⟩⟩
                  · simp only [Array.size_append, List.size_toArray, size_zeroCells, hzs, hnews]
                    simp only [flat, List.flatMap_nil, List.length_nil, Nat.zero_add]
                    rw [← Nat.add_mul]
                    congr 1
                    omega
                  · simp only [Array.toList_append, List.append_assoc]
                    simp only [flat, List.flatMap_nil, List.nil_append]
                    rw [← hl]
                    exact List.take_left
                have hgr2 : w.grownBy (w.drew.alloc (.cells ((flat []).toArray ++ (flat us).toArray ++ Builtin.zeroCells zv.cells (grownCap w ys.length 0 e - ys.length)) e)) none :=
                  ⟨rfl, rfl, rfl, by simp, fun k hk _ => heap_alloc_old w.drew _ hk⟩
                obtain ⟨σ', h1, h2, h3⟩ := push_ok (e := e) (esz := ei.size) h hk0 hgr2 src.reps src.oks src.sizes src.ones hown (by simp [Value.ownBlock]) false (by simp)
                exact ⟨_, _, σ', by rw [hxv]; exact hrun, by simpa using h1, h2, by simpa using h3⟩
            | slt b o e' k0 k1 k2 k3 k4 k5 k6 =>
              rename_i vs
              rcases hsrc with ⟨hy, hu, hxv⟩ | ⟨hm, a', c', hxv, hcell⟩
              · subst hy; simp at l3
              · have hold : (flat vs).length = xs.length * infe.size := by rw [flat_length k2, ← k0.length, hsz, l0]
                have hsmall : xs.length + ys.length ≤ 9223372036854775807 := by simp only [maxLen] at l2; omega
                have hrun := run_append_grow (P := P) w u ty e infe zv hd' hie hzv ⟨b, o, none⟩ xs.length xs.length (flat vs) hold (fun j u hj => by rw [Addr.add_mid]; exact (k5 j u hj).2) a' ys.length c' (flat us) (by rw [hnews, hsz]) hcell (by omega) (by omega)
                  (growslice_fits (by omega) (by rw [← e3]; simpa [lim] using l1))
                have hge := grownCap_ge w (xs.length + ys.length) xs.length e
                have hcm : grownCap w (xs.length + ys.length) xs.length e ≤ maxLen := grownCap_le_maxLen w _ _ e l2
                have hown : (w.drew.alloc (.cells ((flat vs).toArray ++ (flat us).toArray ++ Builtin.zeroCells zv.cells (grownCap w (xs.length + ys.length) xs.length e - (xs.length + ys.length))) e)).ownsRow B e ei.size
                    (.slice (some ⟨w.heap.size, 0, none⟩) (xs.length + ys.length) (grownCap w (xs.length + ys.length) xs.length e)) (xs ++ ys).length (flat (vs ++ us)) := by
                  have hl : (flat (vs ++ us)).length = (xs.length + ys.length) * ei.size := by rw [flat_append, List.length_append, hold, hnews, hsz, Nat.add_mul]
                  rw [List.length_append]
                  refine ⟨hl, .inr ⟨w.heap.size, _, _, rfl, h.size, heap_alloc_new w.drew _, hge, hcm, ?_, ?_⟩⟩
                  · simp only [Array.size_append, List.size_toArray, size_zeroCells, hzs, hold, hnews, hsz, ← Nat.add_mul]
                    congr 1
                    omega
                  · simp only [Array.toList_append, List.append_assoc]
                    rw [← List.append_assoc, ← flat_append, ← hl]
                    exact List.take_left
                have hgr2 : w.grownBy (w.drew.alloc (.cells ((flat vs).toArray ++ (flat us).toArray ++ Builtin.zeroCells zv.cells (grownCap w (xs.length + ys.length) xs.length e - (xs.length + ys.length))) e)) none :=
                  ⟨rfl, rfl, rfl, by simp, fun k hk _ => heap_alloc_old w.drew _ hk⟩
                obtain ⟨σ', h1, h2, h3⟩ := push_ok (e := e) (esz := ei.size) h hk0 hgr2 (k0.append src.reps)
                  (fun y hy => by rcases List.mem_append.1 hy with hy | hy; exact k1 y hy; exact src.oks y hy)
                  (fun y hy => by rcases List.mem_append.1 hy with hy | hy; exact (k2 y hy).trans l0; exact src.sizes y hy)
                  (fun y hy => by rw [flat_append] at hy; rcases List.mem_append.1 hy with hy | hy; exact k3 y hy; exact src.ones y hy) hown (by simp [Value.ownBlock]) false (by simp)
                rw [List.length_append] at h3
                exact ⟨_, _, σ', by rw [hxv]; exact hrun, h1, h2, h3⟩
          · cases ha
        · cases ha
      · cases ha
    · cases ha
  · cases ha

end Go.Proofs.Ytcjccaonfgcakaa.Le
