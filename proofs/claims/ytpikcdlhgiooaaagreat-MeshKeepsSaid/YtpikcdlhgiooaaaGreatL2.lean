/-
  An evaluator for the model's code over pure values: append and make.
-/
import Derived.Test.YtpikcdlhgiooaaaGreatL1
import Derived.Great.FillDense
import Derived.Great.BuildSlice
import Derived.OpenShut
import Derived.DeepKeys
import Derived.Laws.Pointers
import Derived.MapKept
import Derived.ChangeMaps5
namespace Go.Proofs.YtpikcdlhgiooaaaGreat.Le
set_option linter.unusedVariables false
open Go.RowKit (Below)

/-- What an appended (or copied) slice shows. -/
structure Src (σ : Sg) (w : World) (n : Nat) (ys : List V) (us : List Value) (v : Value) : Prop where
  reps : Reps σ w ys us
  oks : ∀ x ∈ ys, fzV x = true
  sizes : ∀ u ∈ us, u.cells.size = n
  ones : ∀ u ∈ flat us, u.oneCell' = true
  val : ((v = .slice none 0 0 ∨ ∃ a k, v = .slice (some a) 0 k) ∧ ys = [] ∧ us = []) ∨ ∃ b o c, v = .slice (some ⟨b, o, none⟩) ys.length c ∧ ys.length ≤ c ∧ ∀ j u, (flat us)[j]? = some u → w.cell? ⟨b, o + j, none⟩ = some u

theorem Src.ext {σ w n ys us v σ'} (h : Src σ w n ys us v) (e : Ext σ w σ' w) : Src σ' w n ys us v := ⟨h.reps.ext e, h.oks, h.sizes, h.ones, h.val⟩

theorem src_ok {B w0 σ H w} (h : Inv B w0 σ H w) {x : V} {v : Value} {ys : List V} {n : Nat} (hr : Reps σ w [x] [v]) (he : elemsOf H x = some ys) (hn : eszIs H x n = true) :
    ∃ us, Src σ w n ys us v := by
  unfold elemsOf at he
  split at he
  · simp only [Option.some.injEq] at he
    subst he
    cases hr with
    | slnil _ => exact ⟨[], .nil, by simp, by simp, by simp [flat], .inl ⟨.inl rfl, rfl, rfl⟩⟩
    | slemp a _ => exact ⟨[], .nil, by simp, by simp, by simp [flat], .inl ⟨.inr ⟨a, 0, rfl⟩, rfl, rfl⟩⟩
    | sl b o c e k0 k1 k2 k3 k4 k5 k6 k7 =>
      simp only [eszIs, Bool.false_or, beq_iff_eq] at hn
      subst hn
      exact ⟨_, k0, k1, k2, k3, .inr ⟨b, o, c, rfl, k4, fun j u hu => (k6 j u hu).2⟩⟩
  · simp only [Option.some.injEq] at he
    subst he
    cases hr with
    | sltnil _ => exact ⟨[], .nil, by simp, by simp, by simp [flat], .inl ⟨.inl rfl, rfl, rfl⟩⟩
    | sltemp a _ => exact ⟨[], .nil, by simp, by simp, by simp [flat], .inl ⟨.inr ⟨a, 0, rfl⟩, rfl, rfl⟩⟩
    | slt b o e k0 k1 k2 k3 k4 k5 k6 =>
      simp only [eszIs, Bool.false_or, beq_iff_eq] at hn
      subst hn
      exact ⟨_, k0, k1, k2, k3, .inr ⟨b, o, _, rfl, Nat.le_refl _, fun j u hu => (k5 j u hu).2⟩⟩
  · rename_i id off len tot
    split at he
    · rename_i b hb
      split at he
      · rename_i hc
        simp only [Bool.and_eq_true, decide_eq_true_eq] at hc
        simp only [Option.some.injEq] at he
        subst he
        obtain ⟨L, us, m, hxl, hol, hs, hview⟩ := lsl_view h hr hb
        simp only [eszIs, hb, beq_iff_eq] at hn
        have hn' : L.esz = n := by rw [← m.esz]; exact hn
        subst hn'
        have hlen : ((b.xs.drop off).take len).length = len := by simp; omega
        refine ⟨(us.drop off).take len, reps_sub m.reps off len, fun x hx => m.fz hc.1 x (List.mem_of_mem_drop (List.mem_of_mem_take hx)), sizes_take (sizes_drop m.sizes off) len, one_take (one_drop m.ones off) len, ?_⟩
        rcases hview with ⟨hv, hvv, ho, hl, ht⟩ | ⟨g, cap, k, hv, hvv, hle, hmx, hk1, hk2⟩
        · simp_all
        · right
          refine ⟨g, k * L.esz, cap - off, by rw [hlen]; exact hvv, by rw [hlen]; omega, ?_⟩
          intro j u hu
          rw [flat_sub m.sizes] at hu
          have hj : j < len * L.esz := by
            have := (List.getElem?_eq_some_iff.1 hu).1
            simp at this
            omega
          rw [List.getElem?_take, if_pos hj, List.getElem?_drop] at hu
          have hlpos : 0 < len := by
            cases len with
            | zero => simp at hj
            | succ n => omega
          have hk : k = off := hk2 (by omega)
          subst hk
          exact m.cell (g := g) (by rw [hv]; rfl) _ _ hu
      · cases he
    · cases he
  · simp [eszIs] at hn
  · cases he

/-- Nothing is appended. -/
theorem run_append_zero {P : Program} (w : World) (t ty e : TypeId) (i : TypeInfo) (ht : P.underlying t = some (.slice e)) (hi : P.info? e = some i) (a : Option Addr) (n c : Nat) (hn : n ≤ c) (x : Value) (hx : x = .slice none 0 0 ∨ ∃ b k, x = .slice (some b) 0 k) :
    (Builtin.append_ #[t, t] ty #[.slice a n c, x]).run P w = .ok (.slice a n c) w := by
  rcases hx with rfl | ⟨b, k, rfl⟩
  · cases a <;> simp [Builtin.append_, run_underlying ht, sizeOf, typeInfo, hi, Builtin.lenOf, Builtin.firstCells, loadCells, hn, storeCells]
  · cases a <;> simp [Builtin.append_, run_underlying ht, sizeOf, typeInfo, hi, Builtin.lenOf, Builtin.firstCells, loadCells, loadCellsFrom, hn, storeCells]

/-- Something is appended to a row that is owned: the row is written behind its end, or a new one is made. -/
theorem run_append_more {P : Program} (w : World) (base : Nat) (t ty e : TypeId) (i : TypeInfo) (z : Value) (size : Nat) (ht : P.underlying t = some (.slice e)) (hi : P.info? e = some i) (hz : i.zero = some z)
    (hsize : i.size = size) (hzs : z.cells.size = size)
    (v : Value) (n : Nat) (xs : List Value) (hown : ownR w base e size v n xs)
    (a : Addr) (m c : Nat) (news : List Value) (hl : news.length = m * size) (hnews : ∀ j u, news[j]? = some u → w.cell? (a.add j) = some u) (h1 : ∀ u ∈ news, u.oneCell' = true) (hm : 0 < m)
    (h63 : n + m ≤ maxLen) (hbytes : (n + m) * i.bytes ≤ 140737488355328) (hbase : base ≤ w.heap.size) :
    ∃ v' w', (Builtin.append_ #[t, t] ty #[v, .slice (some a) m c]).run P w = .ok v' w' ∧ ownR w' base e size v' (n + m) (xs ++ news) ∧ w.grownBy w' v.ownBlock ∧
      v' ≠ .slice none 0 0 ∧ (∀ g, v'.ownBlock = some g → v.ownBlock = some g ∨ w.heap.size ≤ g) ∧
      (∀ g j, v.ownBlock = some g → j < n * size → w'.cell? ⟨g, j, none⟩ = w.cell? ⟨g, j, none⟩) := by
  subst hsize
  have hsmall : n + m ≤ 9223372036854775807 := by simp only [maxLen] at h63; omega
  have hlen : (xs ++ news).length = (n + m) * i.size := by rw [List.length_append, hown.1, hl, Nat.add_mul]
  have grown : ∀ (old : Nat), old < n + m → ∀ (row : Option Nat),
      ownR (w.drew.alloc (.cells (xs.toArray ++ news.toArray ++ Builtin.zeroCells z.cells (grownCap w (n + m) old e - (n + m))) e)) base e i.size
        (.slice (some ⟨w.heap.size, 0, none⟩) (n + m) (grownCap w (n + m) old e)) (n + m) (xs ++ news) ∧
      w.grownBy (w.drew.alloc (.cells (xs.toArray ++ news.toArray ++ Builtin.zeroCells z.cells (grownCap w (n + m) old e - (n + m))) e)) row := by
    intro old ho row
    have hge := grownCap_ge w (n + m) old e
    have hcm : grownCap w (n + m) old e ≤ maxLen := grownCap_le_maxLen w (n + m) old e h63
    refine ⟨⟨hlen, .inr ⟨w.heap.size, _, _, (0, 0), rfl, hbase, heap_alloc_new w.drew _, .inl rfl, hge, hcm, ?_, ?_⟩⟩, ⟨rfl, rfl, rfl, by simp, fun k hk _ => heap_alloc_old w.drew _ hk⟩⟩
    · simp only [Array.size_append, List.size_toArray, size_zeroCells, hzs, hown.1, hl, ← Nat.add_mul]
      congr 1
      omega
    · grind
  have hnew : ∀ g n c, (Value.slice (some ⟨w.heap.size, 0, none⟩) n c).ownBlock = some g → w.heap.size ≤ g := by
    intro g n c hg
    simp [Value.ownBlock] at hg
    omega
  rcases hown.2 with ⟨rfl, rfl⟩ | ⟨g, cap, cur, tg, rfl, hbg, hg, htg, hnc, hcm, hcs, htake⟩
  · have hx : xs = [] := List.eq_nil_of_length_eq_zero (by simpa using hown.1)
    subst hx
    have hr := run_append_nil (P := P) w t ty e i z ht hi hz a m c news hl hnews hm (by omega) (by grind)
    have hgr := grown 0 (by omega) (Value.ownBlock (.slice none 0 0))
    grind
  · by_cases hroom : n + m ≤ cap
    · have hfit : n * i.size + news.length ≤ cur.size := by rw [hl, hcs, ← Nat.add_mul]; exact Nat.mul_le_mul_right _ hroom
      have hr := run_append_room_tag (P := P) (w := w) t ty e i ht hi g n cap cur tg hg htg a m c news hl hnews h1 hroom hfit
      refine ⟨_, _, hr, ⟨hlen, .inr ⟨g, cap, _, tg, rfl, hbg, setRow_heap w g cur _ e _ hg, ?_, hroom, hcm, ?_, ?_⟩⟩, ⟨rfl, rfl, rfl, by simp, fun k _ hk => setRow_other w g k _ (fun e => hk (by simp [Value.ownBlock, e]))⟩, by simp, fun g' hg' => .inl hg', ?_⟩
      · grind
      · grind
      · grind
      · intro g' j hg' hj
        simp only [Value.ownBlock, Option.some.injEq] at hg'
        subst hg'
        rw [cell_setRow_same w g j cur _ e tg hg, cell_of_row w g j cur e tg hg]
        grind
    · have holds : ∀ j u, xs[j]? = some u → w.cell? ((⟨g, 0, none⟩ : Addr).add j) = some u := hown.cells (g := g) rfl
      have hr := run_append_grow (P := P) w t ty e i z ht hi hz ⟨g, 0, none⟩ n cap xs hown.1 holds a m c news hl hnews (by omega) (by omega) (growslice_fits (by omega) hbytes)
      have hgr := grown cap (by omega) (Value.ownBlock (.slice (some ⟨g, 0, none⟩) n cap))
      refine ⟨_, _, hr, hgr.1, hgr.2, by simp, fun g' hg' => .inr (hnew g' _ _ hg'), ?_⟩
      intro g' j hg' hj
      simp only [Value.ownBlock, Option.some.injEq] at hg'
      subst hg'
      exact World.cell?_of_block (heap_alloc_old w.drew _ (by simpa using (ownR.lt hown g rfl).2))

theorem tyOf_slice {d : TypeDesc} {e : Nat} (h : Ty.slice e = tyOf d) : d = .slice e := by
  cases d <;> simp [tyOf] at h
  rw [h]

theorem list_set_self {α : Type} (l : List α) (i : Nat) (x : α) (h : l[i]? = some x) : l.set i x = l := by
  apply List.ext_getElem?
  grind

theorem ownBlock_ne {v : Value} {B e size n xs} {w : World} (h : ownR w B e size v n xs) (hne : v ≠ .slice none 0 0) : ∃ g cap, v = .slice (some ⟨g, 0, none⟩) n cap := by
  rcases h.2 with ⟨hv, _⟩ | ⟨g, cap, cur, tg, hv, _⟩
  · exact absurd hv hne
  simp_all

/-- A row that was just made becomes a box. -/
theorem push_ok {B w0 σ H w w'} (h : Inv B w0 σ H w) {k : Nat} (hk0 : freeB H k = true) (hg : w.grownBy w' none) {xs : List V} {us : List Value} {e esz : Nat} {v' : Value} (hr : Reps σ w xs us) (hk : ∀ x ∈ xs, fzV x = true)
    (hs : ∀ u ∈ us, u.cells.size = esz) (ho : ∀ u ∈ flat us, u.oneCell' = true) (hown : ownR w' B e esz v' xs.length (flat us)) (hnew : ∀ g, v'.ownBlock = some g → w.heap.size ≤ g) (np : Bool) (hnp : np = true → v' = .slice none 0 0) :
    ∃ σ', Inv B w0 σ' (place H k (newBox true np e esz xs)) w' ∧ Ext σ w σ' w' ∧ Reps σ' w' [.lsl k 0 xs.length xs.length] [v'] := by
  obtain ⟨h1, h2⟩ := h.push hg hk0 (newBox true np e esz xs) rfl ⟨v', xs.length, esz⟩ (by simp [newBox]) hnew (fun ex => ⟨rfl, ⟨us, hr.ext ex, hs, ho, by simpa [newBox] using hown⟩, by simpa [newBox] using hnp, rfl, fzV_oks hk, fun _ x hx => fzV_noRef (hk x hx)⟩)
  have hval : ∃ a n c, v' = .slice a n c ∧ n = xs.length ∧ n ≤ c := by
    rcases hown.2 with ⟨hv, hn⟩ | ⟨g, cap, cur, tg, hv, _, _, _, hnc, _⟩
    · grind
    · grind
  obtain ⟨a, n, c, hv, hn, hnc⟩ := hval
  refine ⟨_, h1, h2, .lsl (L := ⟨v', xs.length, esz⟩) (by simp [Sg.put]) (Nat.le_refl _) (fun _ => ⟨by omega, a, n, c, 0, hv, ?_, Nat.zero_le _, Nat.le_refl _, fun _ => rfl⟩) ⟨a, n, c, hv⟩ .nil⟩
  subst hn
  rw [hv]
  cases a with
  | none => simp
  | some a => simp [Addr.add]

/-- An append onto a part of a row, where what follows is room enough. -/
theorem append_mid_ok {B w0 σ H w} {P : Program} (h : Inv B w0 σ H w) {u e : TypeId} (ty : TypeId) {infe : TypeInfo} {id len tot : Nat} {sv xv : Value} {b : Box} {ys : List V} {us : List Value}
    (hd' : P.underlying u = some (.slice e)) (hie : P.info? e = some infe) (hs : Reps σ w [.lsl id 0 len tot] [sv]) (hb : boxAt H id tot = some b) (c1 : b.row = true) (c2 : b.elem = e) (c4 : b.esz = infe.size) (c6 : b.floor ≤ len) (c7 : len < tot)
    (c8 : len + ys.length ≤ tot) (src : Reps σ w ys us) (soks : ∀ y ∈ ys, fzV y = true) (ssz : ∀ y ∈ us, y.cells.size = infe.size) (sones : ∀ v ∈ flat us, v.oneCell' = true)
    (hsrc : (ys = [] ∧ us = [] ∧ (xv = .slice none 0 0 ∨ ∃ b k, xv = .slice (some b) 0 k)) ∨ (0 < ys.length ∧ ∃ a c, xv = .slice (some a) ys.length c ∧ ∀ j u, (flat us)[j]? = some u → w.cell? (a.add j) = some u)) :
    ∃ v' w' σ', (Builtin.append_ #[u, u] ty #[sv, xv]).run P w = .ok v' w' ∧ Inv B w0 σ' (H.set id { b with xs := b.xs.take len ++ ys ++ b.xs.drop (len + ys.length) }) w' ∧ Ext σ w σ' w' ∧ Reps σ' w' [.lsl id 0 (len + ys.length) tot] [v'] := by
  obtain ⟨L, vs, m, hxl, hol, hsub, hview⟩ := lsl_view h hs hb
  have hLe : L.esz = infe.size := by rw [← m.esz]; exact c4
  have hlus : us.length = ys.length := src.length.symm
  rcases hview with ⟨hv, hvv, ho, hl, ht⟩ | ⟨g, cap, k, hv, hvv, hle, hmx, hk1, hk2⟩
  · omega
  have hk0 : k = 0 := by omega
  subst hk0
  have hsv : sv = .slice (some ⟨g, 0, none⟩) len cap := by rw [hvv]; simp
  rcases hsrc with ⟨hy, hu, hxv⟩ | ⟨hm, a', c', hxv, hcell⟩
  · subst hy
    refine ⟨sv, w, σ, ?_, ?_, Ext.refl σ w, by simpa using hs⟩
    · rw [hsv]
      exact run_append_zero w u ty e infe hd' hie _ len cap (by omega) xv hxv
    · have : H.set id { b with xs := b.xs.take len ++ [] ++ b.xs.drop (len + ([] : List V).length) } = H := by
        apply list_set_self
        rw [m.hb]
        cases b
        simp
      rw [this]
      exact h
  rcases m.shape with ⟨hn, _, _⟩ | ⟨g', cap', cur, tg, hv', hB, hh, htg, hn, hm', hcs, ht⟩
  · rw [hn] at hv; cases hv
  rw [hv'] at hv
  simp only [Value.slice.injEq, Option.some.injEq, Addr.mk.injEq, and_true] at hv
  obtain ⟨hgg, _, hcc⟩ := hv
  have hgg := hgg.symm
  subst hgg
  have hcc := hcc.symm
  subst hcc
  have hTl : (flat us).length = ys.length * infe.size := by rw [flat_length ssz, hlus]
  have hmul : len * infe.size + ys.length * infe.size ≤ tot * infe.size := by rw [← Nat.add_mul]; exact Nat.mul_le_mul_right _ c8
  have hcapm : tot * infe.size ≤ cap * infe.size := Nat.mul_le_mul_right _ hle
  have hcs' : cur.size = cap * infe.size := by rw [hcs, hLe]
  have hrun := run_append_room_tag (P := P) (w := w) u ty e infe hd' hie g len cap cur tg (by rw [← c2]; exact hh) htg a' ys.length c' (flat us) hTl hcell sones (by omega) (by rw [hTl]; omega)
  have hlv : vs.length = tot := by rw [m.len, hxl]
  have hFl : (flat vs).length = tot * infe.size := by rw [flat_length m.sizes, hlv, hLe]
  have hcurE : cur.toList = flat vs ++ cur.toList.drop (tot * infe.size) := by
    rw [← hLe, ← ht, hxl, List.take_append_drop]
  have hnew : flat (vs.take len ++ us ++ vs.drop (len + ys.length)) = (flat vs).take (len * infe.size) ++ flat us ++ (flat vs).drop ((len + ys.length) * infe.size) := by
    rw [flat_append, flat_append, flat_take m.sizes, flat_drop m.sizes, hLe]
  have hcells : cur.toList.take (len * infe.size) ++ flat us ++ cur.toList.drop (len * infe.size + (flat us).length) = flat (vs.take len ++ us ++ vs.drop (len + ys.length)) ++ cur.toList.drop (tot * infe.size) := by
    rw [hnew, hTl, ← Nat.add_mul]
    have e1 : cur.toList.take (len * infe.size) = (flat vs).take (len * infe.size) := by
      conv => lhs; rw [hcurE]
      rw [List.take_append_of_le_length (by rw [hFl]; omega)]
    have e2 : cur.toList.drop ((len + ys.length) * infe.size) = (flat vs).drop ((len + ys.length) * infe.size) ++ cur.toList.drop (tot * infe.size) := by
      conv => lhs; rw [hcurE]
      rw [List.drop_append_of_le_length (by rw [hFl, Nat.add_mul]; omega)]
    grind
  rw [hcells] at hrun
  have hsizes' : ∀ x ∈ vs.take len ++ us ++ vs.drop (len + ys.length), x.cells.size = L.esz := by
    intro x hx
    rcases List.mem_append.1 hx with hx | hx
    · rcases List.mem_append.1 hx with hx | hx
      · exact m.sizes x (List.mem_of_mem_take hx)
      · rw [ssz x hx, hLe]
    · exact m.sizes x (List.mem_of_mem_drop hx)
  have hlenN : (vs.take len ++ us ++ vs.drop (len + ys.length)).length = tot := by
    simp only [List.length_append, List.length_take, List.length_drop, hlus, hlv]
    omega
  have hlenX : (b.xs.take len ++ ys ++ b.xs.drop (len + ys.length)).length = tot := by
    simp only [List.length_append, List.length_take, List.length_drop, hxl]
    omega
  have hlen' : (flat (vs.take len ++ us ++ vs.drop (len + ys.length))).length = tot * L.esz := by
    rw [flat_length hsizes', hlenN]
  have hheap := setRow_heap w g cur (flat (vs.take len ++ us ++ vs.drop (len + ys.length)) ++ cur.toList.drop (tot * infe.size)).toArray b.elem tg hh
  have hown : L.v.ownBlock = some g := by rw [hv']; rfl
  have hgb : w.grownBy (w.setRow g (flat (vs.take len ++ us ++ vs.drop (len + ys.length)) ++ cur.toList.drop (tot * infe.size)).toArray) L.v.ownBlock :=
    ⟨rfl, rfl, rfl, by simp, fun k _ hk => setRow_other w g k _ (fun e => hk (by rw [hown, e]))⟩
  have hmulE : tot * infe.size ≤ cap * infe.size := hcapm
  obtain ⟨h1, h2⟩ := h.upd m.hb m.live m.box hgb { b with xs := b.xs.take len ++ ys ++ b.xs.drop (len + ys.length) } m.live L rfl (.inl rfl) rfl (by grind) (fun g' hg' => .inl hg')
    (fun g' c' hg' hc' => by
      rw [hown] at hg'
      cases hg'
      have hfl : b.floor * L.esz ≤ len * L.esz := Nat.mul_le_mul_right _ c6
      have hc2 : c' < len * infe.size := by rw [← hLe]; omega
      have hcc : c' < cur.size := by rw [hcs']; omega
      unfold World.cell?
      simp only [hheap, hh]
      have : (flat (vs.take len ++ us ++ vs.drop (len + ys.length)) ++ cur.toList.drop (tot * infe.size)).toArray[c']? = cur[c']? := by
        rw [← hcells]
        simp only [List.getElem?_toArray]
        rw [List.append_assoc, List.getElem?_append_left (by simp only [List.length_take, Array.length_toList]; omega), List.getElem?_take, if_pos hc2]
        simp
      rw [this]) (fun ex => by
      refine ⟨by simp only [hlenX]; rw [m.tot, hxl], ⟨vs.take len ++ us ++ vs.drop (len + ys.length), (((m.reps.ext ex).take len).append (src.ext ex)).append ((m.reps.ext ex).drop (len + ys.length)), hsizes', ?_, ?_⟩, m.nilp, m.esz, ?_, fun hrow => ?_⟩
      · intro v hv2
        rw [hnew] at hv2
        rcases List.mem_append.1 hv2 with hv2 | hv2
        · rcases List.mem_append.1 hv2 with hv2 | hv2
          · exact m.ones v (List.mem_of_mem_take hv2)
          · exact sones v hv2
        · exact m.ones v (List.mem_of_mem_drop hv2)
      · simp only [hlenX]
        refine ⟨hlen', .inr ⟨g, cap, _, tg, by rw [hv', hxl], hB, hheap, ?_, by omega, hm', ?_, ?_⟩⟩
        · grind
        · grind
        grind
      · intro y hy
        rcases List.mem_append.1 hy with hy | hy
        · rcases List.mem_append.1 hy with hy | hy
          · exact m.oks y (List.mem_of_mem_take hy)
          · exact fzV_ok (soks y hy)
        · exact m.oks y (List.mem_of_mem_drop hy)
      · intro y hy
        rcases List.mem_append.1 hy with hy | hy
        · rcases List.mem_append.1 hy with hy | hy
          · exact m.fzs hrow y (List.mem_of_mem_take hy)
          · exact fzV_noRef (soks y hy)
        · exact m.fzs hrow y (List.mem_of_mem_drop hy))
  refine ⟨_, _, _, by rw [hsv, hxv]; exact hrun, h1, h2, ?_⟩
  refine .lsl (L := L) (by simp [Sg.put]) (by rw [m.tot, hxl]; exact Nat.le_refl _) (fun _ => ⟨by omega, _, _, _, 0, hv', by simp [Addr.add], Nat.zero_le _, Nat.le_refl _, fun _ => rfl⟩) ⟨_, _, _, rfl⟩ .nil

theorem append_ok {E B w0 σ H w} {P : Program} (hE : EnvOK E) (hP : E.P = P) (h : Inv B w0 σ H w) {k : Nat} (hk0 : freeB H k = true) {t u : TypeId} (ty : TypeId) {s x r : V} {sv xv : Value} {H' : Heap}
    (hs : Reps σ w [s] [sv]) (hx : Reps σ w [x] [xv]) (ha : appendD E k H t u s x = some (r, H')) :
    ∃ v' w' σ', (Builtin.append_ #[t, u] ty #[sv, xv]).run P w = .ok v' w' ∧ Inv B w0 σ' H' w' ∧ Ext σ w σ' w' ∧ Reps σ' w' [r] [v'] := by
  unfold appendD at ha
  split at ha
  · rename_i e sz by' z0 hti
    split at ha
    · rename_i ei ys hei hut hys
      have hut' : u = t := by simpa using hut
      subst hut'
      obtain ⟨inf, d, hi, hd, q1, q2, q3, q4⟩ := tiOf_some (hE.ti _ _ hti)
      have hd' : P.underlying u = some (.slice e) := by rw [hP] at hd; rw [hd, tyOf_slice q1]
      obtain ⟨infe, de, hie, hde, e1, e2, e3, e4⟩ := tiOf_some (hE.ti _ _ hei)
      rw [hP] at hie
      split at ha
      · rename_i hcond
        simp only [Bool.and_eq_true, decide_eq_true_eq] at hcond
        obtain ⟨⟨hpos, hesz⟩, hzok⟩ := hcond
        obtain ⟨us, src⟩ := src_ok h hx hys hesz
        have hsz : infe.size = ei.size := e2.symm
        obtain ⟨zv, hzv, hzs⟩ : ∃ zv, infe.zero = some zv ∧ zv.cells.size = ei.size := by
          unfold TI.zok at hzok
          cases hz : ei.zero with
          | none => simp [hz] at hzok
          | some z =>
            rw [hz] at e4 hzok
            cases hzz : infe.zero with
            | none => simp [hzz] at e4
            | some zv =>
              simp only [hzz, Option.map_some, Option.some.injEq] at e4
              simp only [Bool.and_eq_true, beq_iff_eq] at hzok
              refine ⟨zv, rfl, ?_⟩
              have := (ofConst_reps σ w zv).cells_len (by rw [← e4]; exact hzok.1)
              rw [← this, ← e4]
              exact hzok.2
        have hnews : (flat us).length = ys.length * ei.size := by rw [flat_length src.sizes, src.reps.length]
        -- what is appended, as the laws want it
        have hsrc : (ys = [] ∧ us = [] ∧ (xv = .slice none 0 0 ∨ ∃ b k, xv = .slice (some b) 0 k)) ∨ (0 < ys.length ∧ ∃ a c, xv = .slice (some a) ys.length c ∧ ∀ j u, (flat us)[j]? = some u → w.cell? (a.add j) = some u) := by
          rcases src.val with ⟨hv, hy, hu⟩ | ⟨b, o, c, hv, hc, hcell⟩
          · simp_all
          · cases hy : ys with
            | nil =>
              left
              subst hy
              exact ⟨rfl, src.reps.nil_left, .inr ⟨_, _, hv⟩⟩
            | cons y yl =>
              right
              refine ⟨by simp, ⟨b, o, none⟩, c, by rw [← hy]; exact hv, fun j u hj => by rw [Addr.add_mid]; exact hcell j u hj⟩
        split at ha
        · rename_i id off len tot
          split at ha
          · rename_i b hb
            split at ha
            · rename_i hc
              simp only [Bool.and_eq_true, beq_iff_eq, decide_eq_true_eq] at hc
              obtain ⟨⟨⟨⟨c1, c2⟩, c3⟩, c4⟩, c5⟩ := hc
              subst c3
              subst c4
              split at ha
              · rename_i hlim
                simp only [Bool.and_eq_true, decide_eq_true_eq] at hlim
                obtain ⟨l1, l2⟩ := hlim
                simp only [Option.some.injEq, Prod.mk.injEq] at ha
                obtain ⟨rfl, rfl⟩ := ha
                obtain ⟨L, vs, m, hxl, hol, hsub, hview⟩ := lsl_view h hs hb
                have hLe : L.esz = ei.size := by rw [← m.esz]; exact c5
                have hsv : sv = L.v ∧ ∃ a n c, L.v = .slice a n c ∧ n ≤ c := by
                  rcases hview with ⟨hv, hvv, ho, hl, ht⟩ | ⟨g, cap, k, hv, hvv, hle, hmx, hk1, hk2⟩
                  · exact ⟨hvv.trans hv.symm, _, _, _, hv, Nat.le_refl _⟩
                  · have : k = 0 := by omega
                    subst this
                    refine ⟨?_, _, _, _, hv, hle⟩
                    rw [hvv, hv]
                    simp
                obtain ⟨hsv, a, n, c, hLv, hnc⟩ := hsv
                rcases hsrc with ⟨hy, hu, hxv⟩ | ⟨hm, a', c', hxv, hcell⟩
                · subst hy
                  refine ⟨sv, w, σ, ?_, ?_, Ext.refl σ w, by simpa using hs⟩
                  · rw [hsv, hLv]
                    exact run_append_zero w u ty e infe hd' hie a n c hnc xv hxv
                  · have : H.set id { b with xs := b.xs ++ [], nilp := b.nilp && List.isEmpty ([] : List V) } = H := by
                      apply list_set_self
                      rw [m.hb]
                      cases b
                      simp
                    simp_all
                · have hown := m.own
                  rw [hLe, c2] at hown
                  rw [hxl] at hown
                  obtain ⟨v', w', hrun, hown', hgr, hne, hnew, hkeep⟩ := run_append_more (P := P) w B u ty e infe zv ei.size hd' hie hzv hsz hzs L.v len (flat vs) hown a' ys.length c' (flat us) hnews hcell src.ones hm l2
                    (by rw [← e3]; exact l1) h.size
                  obtain ⟨h1, h2⟩ := h.upd m.hb m.live m.box hgr { b with xs := b.xs ++ ys, nilp := b.nilp && ys.isEmpty } m.live ⟨v', len + ys.length, L.esz⟩ rfl (.inr (by simp only [m.tot, hxl]; omega)) rfl (by simp)
                    hnew (fun g c0 hg hc0 => hkeep g c0 hg (by
                      rw [← hLe, ← hxl]
                      exact Nat.lt_of_lt_of_le hc0 (Nat.mul_le_mul_right _ (h.low id b m.hb m.live)))) (fun ex => by
                      refine ⟨by simp [hxl], ⟨vs ++ us, (m.reps.ext ex).append (src.reps.ext ex), ?_, ?_, ?_⟩, ?_, m.esz, ?_, fun hrow => ?_⟩
                      · intro y hy
                        rcases List.mem_append.1 hy with hy | hy
                        · exact m.sizes y hy
                        · rw [src.sizes y hy, hLe]
                      · intro y hy
                        rw [flat_append] at hy
                        rcases List.mem_append.1 hy with hy | hy
                        · exact m.ones y hy
                        · exact src.ones y hy
                      · rw [flat_append]
                        simp_all
                      · grind
                      · intro y hy
                        rcases List.mem_append.1 hy with hy | hy
                        · exact m.oks y hy
                        · exact fzV_ok (src.oks y hy)
                      · intro y hy
                        rcases List.mem_append.1 hy with hy | hy
                        · exact m.fzs hrow y hy
                        · exact fzV_noRef (src.oks y hy))
                  obtain ⟨g, cap, hv'⟩ := ownBlock_ne hown' hne
                  refine ⟨v', w', _, by simp_all, h1, h2, .lsl (L := ⟨v', len + ys.length, L.esz⟩) (by simp [Sg.put]) (Nat.le_refl _) (fun _ => ⟨by omega, _, _, _, 0, hv', ?_, Nat.zero_le _, Nat.le_refl _, fun _ => rfl⟩) ⟨_, _, _, hv'⟩ .nil⟩
                  rw [hv']
                  simp [Addr.add]
              · cases ha
            · split at ha
              · rename_i hc
                simp only [Bool.and_eq_true, beq_iff_eq, decide_eq_true_eq] at hc
                obtain ⟨⟨⟨⟨⟨⟨c1, c2⟩, c3⟩, c4⟩, c6⟩, c7⟩, c8⟩ := hc
                subst c3
                simp only [Option.some.injEq, Prod.mk.injEq] at ha
                obtain ⟨rfl, rfl⟩ := ha
                exact append_mid_ok h ty hd' hie hs hb c1 c2 (by rw [c4, hsz]) c6 c7 c8 src.reps src.oks (fun y hy => by rw [src.sizes y hy, hsz]) src.ones hsrc
              · cases ha
          · cases ha
        · -- nil
          split at ha
          · rename_i hlim
            simp only [Bool.and_eq_true, decide_eq_true_eq] at hlim
            obtain ⟨l1, l2⟩ := hlim
            simp only [Option.some.injEq, Prod.mk.injEq] at ha
            obtain ⟨rfl, rfl⟩ := ha
            have hsv : sv = .slice none 0 0 := by cases hs <;> rfl
            subst hsv
            rcases hsrc with ⟨hy, hu, hxv⟩ | ⟨hm, a', c', hxv, hcell⟩
            · subst hy
              subst hu
              obtain ⟨σ', h1, h2, h3⟩ := push_ok (e := e) (esz := ei.size) h hk0 (grownBy_refl w none) (xs := []) (us := []) .nil (by simp) (by simp) (by simp [flat]) (ownR_nil w B e ei.size) (by simp [Value.ownBlock]) false (by simp)
              exact ⟨_, w, σ', run_append_zero w u ty e infe hd' hie none 0 0 (Nat.le_refl _) xv hxv, h1, h2, h3⟩
            · obtain ⟨v', w', hrun, hown', hgr, hne, hnew, hkeep⟩ := run_append_more (P := P) w B u ty e infe zv ei.size hd' hie hzv hsz hzs (.slice none 0 0) 0 [] (ownR_nil w B e ei.size) a' ys.length c' (flat us) hnews hcell src.ones hm (by simpa using l2)
                (by rw [← e3]; simpa [lim] using l1) h.size
              simp only [Nat.zero_add, List.nil_append] at hown'
              obtain ⟨σ', h1, h2, h3⟩ := push_ok (e := e) (esz := ei.size) h hk0 hgr src.reps src.oks src.sizes src.ones hown' (fun g hg => by
                rcases hnew g hg with hh | hh
                · simp [Value.ownBlock] at hh
                · exact hh) false (by simp)
              grind
          · cases ha
        · -- nil
          split at ha
          · rename_i hlim
            simp only [Bool.and_eq_true, decide_eq_true_eq] at hlim
            obtain ⟨l1, l2⟩ := hlim
            simp only [Option.some.injEq, Prod.mk.injEq] at ha
            obtain ⟨rfl, rfl⟩ := ha
            have hsv : sv = .slice none 0 0 := by cases hs <;> rfl
            subst hsv
            rcases hsrc with ⟨hy, hu, hxv⟩ | ⟨hm, a', c', hxv, hcell⟩
            · subst hy
              subst hu
              obtain ⟨σ', h1, h2, h3⟩ := push_ok (e := e) (esz := ei.size) h hk0 (grownBy_refl w none) (xs := []) (us := []) .nil (by simp) (by simp) (by simp [flat]) (ownR_nil w B e ei.size) (by simp [Value.ownBlock]) false (by simp)
              exact ⟨_, w, σ', run_append_zero w u ty e infe hd' hie none 0 0 (Nat.le_refl _) xv hxv, h1, h2, h3⟩
            · obtain ⟨v', w', hrun, hown', hgr, hne, hnew, hkeep⟩ := run_append_more (P := P) w B u ty e infe zv ei.size hd' hie hzv hsz hzs (.slice none 0 0) 0 [] (ownR_nil w B e ei.size) a' ys.length c' (flat us) hnews hcell src.ones hm (by simpa using l2)
                (by rw [← e3]; simpa [lim] using l1) h.size
              simp only [Nat.zero_add, List.nil_append] at hown'
              obtain ⟨σ', h1, h2, h3⟩ := push_ok (e := e) (esz := ei.size) h hk0 hgr src.reps src.oks src.sizes src.ones hown' (fun g hg => by
                rcases hnew g hg with hh | hh
                · simp [Value.ownBlock] at hh
                · exact hh) false (by simp)
              grind
          · cases ha
        · -- a full slice
          rename_i es xs
          split at ha
          · rename_i hlim
            simp only [Bool.and_eq_true, decide_eq_true_eq, beq_iff_eq] at hlim
            obtain ⟨⟨l0, l1⟩, l2⟩ := hlim
            by_cases l3 : ys.isEmpty = true
            · rw [if_pos l3] at ha
              simp only [Option.some.injEq, Prod.mk.injEq] at ha
              obtain ⟨rfl, rfl⟩ := ha
              have hxz : xv = .slice none 0 0 ∨ ∃ b k, xv = .slice (some b) 0 k := by
                rcases hsrc with ⟨hy, hu, hxv⟩ | ⟨hm, a', c', hxv, hcell⟩
                · exact hxv
                · cases ys with
                  | nil => simp at hm
                  | cons y ys => simp at l3
              have hsv : ∃ a n, sv = .slice a n n := by
                cases hs with
                | sltnil _ => exact ⟨_, _, rfl⟩
                | sltemp a _ => exact ⟨_, _, rfl⟩
                | slt b o _ k0 k1 k2 k3 k4 k5 _ => exact ⟨_, _, rfl⟩
              obtain ⟨sa, sn, rfl⟩ := hsv
              exact ⟨_, w, σ, run_append_zero w u ty e infe hd' hie sa sn sn (Nat.le_refl _) xv hxz, h, Ext.refl σ w, hs⟩
            rw [if_neg l3] at ha
            simp only [Option.some.injEq, Prod.mk.injEq] at ha
            obtain ⟨rfl, rfl⟩ := ha
            cases hs with
            | sltnil _ =>
              rcases hsrc with ⟨hy, hu, hxv⟩ | ⟨hm, a', c', hxv, hcell⟩
              · subst hy; simp at l3
              · obtain ⟨v', w', hrun, hown', hgr, hne, hnew, hkeep⟩ := run_append_more (P := P) w B u ty e infe zv ei.size hd' hie hzv hsz hzs (.slice none 0 0) 0 [] (ownR_nil w B e ei.size) a' ys.length c' (flat us) hnews hcell src.ones hm (by simpa using l2)
                  (by rw [← e3]; simpa [lim] using l1) h.size
                simp only [Nat.zero_add, List.nil_append] at hown'
                obtain ⟨σ', h1, h2, h3⟩ := push_ok (e := e) (esz := ei.size) h hk0 hgr src.reps src.oks src.sizes src.ones hown' (fun g hg => by
                  rcases hnew g hg with hh | hh
                  · simp [Value.ownBlock] at hh
                  · exact hh) false (by simp [hne])
                grind
            | sltemp sa _ =>
              rcases hsrc with ⟨hy, hu, hxv⟩ | ⟨hm, a', c', hxv, hcell⟩
              · subst hy; simp at l3
              · have hold : (flat []).length = 0 * infe.size := by simp [flat]
                have l2' : ys.length ≤ maxLen := by simpa using l2
                have hsmall : ys.length ≤ 9223372036854775807 := by simpa [maxLen] using l2'
                have hrun := run_append_grow (P := P) w u ty e infe zv hd' hie hzv sa 0 0 (flat []) hold (fun j u hj => by simp [flat] at hj) a' ys.length c' (flat us) (by rw [hnews, hsz]) hcell (by omega) (by omega)
                  (growslice_fits (by omega) (by rw [← e3]; simpa [lim] using l1))
                simp only [Nat.zero_add] at hrun
                have hge := grownCap_ge w ys.length 0 e
                have hcm : grownCap w ys.length 0 e ≤ maxLen := grownCap_le_maxLen w _ _ e l2'
                have hown : (w.drew.alloc (.cells ((flat []).toArray ++ (flat us).toArray ++ Builtin.zeroCells zv.cells (grownCap w ys.length 0 e - ys.length)) e)).ownsRow B e ei.size
                    (.slice (some ⟨w.heap.size, 0, none⟩) ys.length (grownCap w ys.length 0 e)) ys.length (flat us) := by
                  have hl : (flat us).length = ys.length * ei.size := by rw [hnews]
                  refine ⟨hl, .inr ⟨w.heap.size, _, _, rfl, h.size, heap_alloc_new w.drew _, hge, hcm, ?_, ?_⟩⟩
                  · simp only [Array.size_append, List.size_toArray, size_zeroCells, hzs, hnews]
                    simp only [flat, List.flatMap_nil, List.length_nil, Nat.zero_add]
                    rw [← Nat.add_mul]
                    simp_all
                  · simp_all
                have hgr2 : w.grownBy (w.drew.alloc (.cells ((flat []).toArray ++ (flat us).toArray ++ Builtin.zeroCells zv.cells (grownCap w ys.length 0 e - ys.length)) e)) none :=
                  ⟨rfl, rfl, rfl, by simp, fun k hk _ => heap_alloc_old w.drew _ hk⟩
                obtain ⟨σ', h1, h2, h3⟩ := push_ok (e := e) (esz := ei.size) h hk0 hgr2 src.reps src.oks src.sizes src.ones (.of hown) (by simp [Value.ownBlock]) false (by simp)
                grind
            | slt b o e' k0 k1 k2 k3 k4 k5 k6 =>
              rename_i vs
              rcases hsrc with ⟨hy, hu, hxv⟩ | ⟨hm, a', c', hxv, hcell⟩
              · subst hy; simp at l3
              · have hold : (flat vs).length = xs.length * infe.size := by rw [flat_length k2, ← k0.length, hsz, l0]
                have hsmall : xs.length + ys.length ≤ 9223372036854775807 := by simp only [maxLen] at l2; omega
                have hrun := run_append_grow (P := P) w u ty e infe zv hd' hie hzv ⟨b, o, none⟩ xs.length xs.length (flat vs) hold (fun j u hj => by rw [Addr.add_mid]; exact (k5 j u hj).2) a' ys.length c' (flat us) (by rw [hnews, hsz]) hcell (by omega) (by omega)
                  (growslice_fits (by omega) (by rw [← e3]; simpa [lim] using l1))
                have hge := grownCap_ge w (xs.length + ys.length) xs.length e
                have hcm : grownCap w (xs.length + ys.length) xs.length e ≤ maxLen := grownCap_le_maxLen w _ _ e l2
                have hown : (w.drew.alloc (.cells ((flat vs).toArray ++ (flat us).toArray ++ Builtin.zeroCells zv.cells (grownCap w (xs.length + ys.length) xs.length e - (xs.length + ys.length))) e)).ownsRow B e ei.size
                    (.slice (some ⟨w.heap.size, 0, none⟩) (xs.length + ys.length) (grownCap w (xs.length + ys.length) xs.length e)) (xs ++ ys).length (flat (vs ++ us)) := by
                  have hl : (flat (vs ++ us)).length = (xs.length + ys.length) * ei.size := by rw [flat_append, List.length_append, hold, hnews, hsz, Nat.add_mul]
                  rw [List.length_append]
                  refine ⟨hl, .inr ⟨w.heap.size, _, _, rfl, h.size, heap_alloc_new w.drew _, hge, hcm, ?_, ?_⟩⟩
                  · simp only [Array.size_append, List.size_toArray, size_zeroCells, hzs, hold, hnews, hsz, ← Nat.add_mul]
                    simp_all
                  · simp only [Array.toList_append, List.append_assoc]
                    rw [← List.append_assoc, ← flat_append, ← hl]
                    exact List.take_left
                have hgr2 : w.grownBy (w.drew.alloc (.cells ((flat vs).toArray ++ (flat us).toArray ++ Builtin.zeroCells zv.cells (grownCap w (xs.length + ys.length) xs.length e - (xs.length + ys.length))) e)) none :=
                  ⟨rfl, rfl, rfl, by simp, fun k hk _ => heap_alloc_old w.drew _ hk⟩
                obtain ⟨σ', h1, h2, h3⟩ := push_ok (e := e) (esz := ei.size) h hk0 hgr2 (k0.append src.reps)
                  (fun y hy => by rcases List.mem_append.1 hy with hy | hy; exact k1 y hy; exact src.oks y hy)
                  (fun y hy => by rcases List.mem_append.1 hy with hy | hy; exact (k2 y hy).trans l0; exact src.sizes y hy)
                  (fun y hy => by rw [flat_append] at hy; rcases List.mem_append.1 hy with hy | hy; exact k3 y hy; exact src.ones y hy) (.of hown) (by simp [Value.ownBlock]) false (by simp)
                grind
          · cases ha
        · cases ha
      · cases ha
    · cases ha
  · cases ha

/-! ### copy -/

theorem run_copy_of {P : Program} (w : World) (t u ty e : TypeId) (i : TypeInfo) (ht : P.underlying t = some (.slice e)) (hi : P.info? e = some i) (a : Option Addr) (dl dc : Nat) (s : Option Addr) (sl sc : Nat) (cs : List Value) (w' : World)
    (hcs : cs.length = Nat.min sl dl * i.size) (hs : s = none → cs = []) (hsrc : ∀ b, s = some b → ∀ j v, cs[j]? = some v → w.cell? (b.add j) = some v)
    (hst : ∀ a', a = some a' → (storeCells a' cs).run P w = .ok () w') (hn : a = none → w' = w) :
    (Builtin.copy_ #[t, u] ty #[.slice a dl dc, .slice s sl sc]).run P w = .ok (goInt (Nat.min sl dl : Nat)) w' := by
  have hf : (Builtin.firstCells i.size (Nat.min sl dl) (.slice s sl sc)).run P w = .ok cs.toArray w := by
    cases s with
    | none => rw [hs rfl]; rfl
    | some b =>
      have := run_loadCells_list (P := P) w b cs (hsrc b rfl)
      rw [hcs] at this
      exact this
  cases a with
  | none =>
    rw [hn rfl]
    simp [Builtin.copy_, run_underlying ht, Builtin.lenOf, sizeOf, typeInfo, hi, hf]
  | some a' => simp [Builtin.copy_, run_underlying ht, Builtin.lenOf, sizeOf, typeInfo, hi, hf, hst a' rfl]

theorem copy_ok {E B w0 σ H w} {P : Program} (hE : EnvOK E) (hP : E.P = P) (h : Inv B w0 σ H w) {t u : TypeId} (ty : TypeId) {d x r : V} {dv xv : Value} {H' : Heap}
    (hd : Reps σ w [d] [dv]) (hx : Reps σ w [x] [xv]) (hc : copyD E H t u d x = some (r, H')) :
    ∃ v' w' σ', (Builtin.copy_ #[t, u] ty #[dv, xv]).run P w = .ok v' w' ∧ Inv B w0 σ' H' w' ∧ Ext σ w σ' w' ∧ Reps σ' w' [r] [v'] := by
  unfold copyD at hc
  split at hc
  · rename_i e sz by' z0 hti
    split at hc
    · rename_i ei ys id off len tot hei hys
      obtain ⟨inf, dd, hi, hdd, q1, q2, q3, q4⟩ := tiOf_some (hE.ti _ _ hti)
      have hd' : P.underlying t = some (.slice e) := by rw [hP] at hdd; rw [hdd, tyOf_slice q1]
      obtain ⟨infe, de, hie, hde, e1, e2, e3, e4⟩ := tiOf_some (hE.ti _ _ hei)
      rw [hP] at hie
      split at hc
      · rename_i b hb
        split at hc
        · rename_i hcond
          simp only [Bool.and_eq_true, beq_iff_eq, decide_eq_true_eq] at hcond
          obtain ⟨⟨⟨⟨⟨c1, c2⟩, c3⟩, c4⟩, c5⟩, c6⟩ := hcond
          subst c2
          subst c3
          simp only [Option.some.injEq, Prod.mk.injEq] at hc
          obtain ⟨rfl, rfl⟩ := hc
          obtain ⟨us, src⟩ := src_ok h hx hys c5
          obtain ⟨L, vs, m, hxl, hol, hsub, hview⟩ := lsl_view h hd hb
          have hLe : L.esz = ei.size := by rw [← m.esz]; exact c4
          have hsz : infe.size = ei.size := e2.symm
          have hlus : us.length = ys.length := src.reps.length.symm
          have hnum : ∀ n : Nat, n ≤ maxLen → ∀ (σ' : Sg) (w' : World), Reps σ' w' [.lit (.int .i64 (n : Nat))] [goInt n] := fun n hn σ' w' => by
            refine .lit ?_ .nil
            have : (Lit.int .i64 (n : Int)).wf = true := by
              simp [Lit.wf, IntKind.min, IntKind.max, IntKind.signed, IntKind.bits, maxLen] at hn ⊢
              omega
            exact this
          -- the source, as a slice value
          obtain ⟨sa, sc, hxv, hsn, hcell⟩ : ∃ (sa : Option Addr) (sc : Nat), xv = .slice sa ys.length sc ∧ (sa = none → us = []) ∧ ∀ b', sa = some b' → ∀ j v, (flat us)[j]? = some v → w.cell? (b'.add j) = some v := by
            rcases src.val with ⟨hv, hy, hu⟩ | ⟨b', o, c, hv, hc', hcell⟩
            · rcases hv with hv | ⟨a, k, hv⟩
              · exact ⟨none, 0, by rw [hy]; exact hv, fun _ => hu, fun b' hb' => by cases hb'⟩
              · exact ⟨some a, k, by rw [hy]; exact hv, fun _ => hu, fun b' _ j v hj => by rw [hu] at hj; simp [flat] at hj⟩
            · exact ⟨some ⟨b', o, none⟩, c, hv, (fun hh => by cases hh), (fun b2 hb2 j v hj => by cases hb2; rw [Addr.add_mid]; exact hcell j v hj)⟩
          have hsrc' : ∀ b', sa = some b' → ∀ j v, (flat (us.take len))[j]? = some v → w.cell? (b'.add j) = some v := fun b' hb' j v hj => by
            rw [flat_take src.sizes] at hj
            refine hcell b' hb' j v ?_
            rw [List.getElem?_take] at hj
            split at hj
            · exact hj
            · cases hj
          have hmin : Nat.min ys.length len = min ys.length len := rfl
          have hcsl : (flat (us.take len)).length = Nat.min ys.length len * infe.size := by
            rw [flat_length (sizes_take src.sizes len), List.length_take, hlus, hsz, hmin, Nat.min_comm]
          have hsn' : sa = none → flat (us.take len) = [] := fun hh => by rw [hsn hh]; simp [flat]
          rw [hxv]
          rcases hview with ⟨hv, hvv, ho, hl, ht⟩ | ⟨g, cap, k, hv, hvv, hle, hmx, hk1, hk2⟩
          · subst hl
            refine ⟨_, w, σ, ?_, ?_, Ext.refl σ w, hnum _ (by simp) σ w⟩
            · rw [hvv]
              have := run_copy_of (P := P) w t u ty e infe hd' hie none 0 0 sa ys.length sc (flat (us.take 0)) w hcsl hsn' hsrc' (fun a' ha' => by cases ha') (fun _ => rfl)
              simpa [hmin] using this
            · have hxs : b.xs = [] := List.eq_nil_of_length_eq_zero hxl
              have : H.set id { b with xs := ys.take 0 ++ b.xs.drop ys.length } = H := by
                apply list_set_self
                rw [m.hb]
                cases b
                simp only at hxs
                simp [hxs]
              rw [this]
              exact h
          · have hk0 : k = 0 := by omega
            subst hk0
            rcases m.shape with ⟨hn, _, _⟩ | ⟨g', cap', cur, tg, hv', hB, hh, htg, hn, hm, hcs, ht⟩
            · rw [hn] at hv; cases hv
            · rw [hv'] at hv
              simp only [Value.slice.injEq, Option.some.injEq, Addr.mk.injEq, and_true] at hv
              obtain ⟨hgg, _, hcc⟩ := hv
              have hgg := hgg.symm
              subst hgg
              have hcc := hcc.symm
              subst hcc
              have hfit : 0 + 0 + (flat (us.take len)).length ≤ cur.size := by
                rw [hcsl, hcs, hsz, hLe, hmin]
                have : min ys.length len ≤ cap := by omega
                simpa using Nat.mul_le_mul_right ei.size this
              have hones : ∀ v ∈ flat (us.take len), v.oneCell' = true := one_take src.ones len
              have hrun := run_storeCells_tag P g 0 b.elem tg (flat (us.take len)) 0 cur w hh htg hfit hones
              simp only [Nat.add_zero, Nat.zero_add, List.take_zero, List.nil_append] at hrun
              have hnew : flat (us.take len ++ vs.drop ys.length) = flat (us.take len) ++ (flat vs).drop (ys.length * L.esz) := by
                rw [flat_append, flat_drop m.sizes]
              have hlv : vs.length = len := by rw [m.len, hxl]
              have hcurE : cur.toList = flat vs ++ cur.toList.drop (len * L.esz) := by
                rw [← ht, hxl, List.take_append_drop]
              have hFl : (flat vs).length = len * L.esz := by rw [flat_length m.sizes, hlv]
              have hTl : (flat (us.take len)).length = min ys.length len * L.esz := by rw [hcsl, hsz, hLe]
              have hrest : cur.toList.drop (flat (us.take len)).length = (flat vs).drop (ys.length * L.esz) ++ cur.toList.drop (len * L.esz) := by
                rw [hTl]
                by_cases hyl : ys.length ≤ len
                · rw [Nat.min_eq_left hyl]
                  conv => lhs; rw [hcurE]
                  rw [List.drop_append_of_le_length (by rw [hFl]; exact Nat.mul_le_mul_right _ hyl)]
                · have hyl' : len ≤ ys.length := by omega
                  rw [Nat.min_eq_right hyl', List.drop_eq_nil_of_le (as := flat vs) (by rw [hFl]; exact Nat.mul_le_mul_right _ hyl'), List.nil_append]
              rw [hrest, ← List.append_assoc, ← hnew] at hrun
              have hsizes' : ∀ u ∈ us.take len ++ vs.drop ys.length, u.cells.size = L.esz := by
                intro u hu
                rcases List.mem_append.1 hu with hu | hu
                · rw [sizes_take src.sizes len u hu, hLe]
                · exact m.sizes u (List.mem_of_mem_drop hu)
              have hlenN : (us.take len ++ vs.drop ys.length).length = len := by
                simp only [List.length_append, List.length_take, List.length_drop, hlus, hlv]
                omega
              have hlenX : (ys.take len ++ b.xs.drop ys.length).length = len := by
                simp only [List.length_append, List.length_take, List.length_drop, hxl]
                omega
              have hlen' : (flat (us.take len ++ vs.drop ys.length)).length = len * L.esz := by
                rw [flat_length hsizes', hlenN]
              have hheap := setRow_heap w g cur (flat (us.take len ++ vs.drop ys.length) ++ cur.toList.drop (len * L.esz)).toArray b.elem tg hh
              have hown : L.v.ownBlock = some g := by rw [hv']; rfl
              have hgb : w.grownBy (w.setRow g (flat (us.take len ++ vs.drop ys.length) ++ cur.toList.drop (len * L.esz)).toArray) L.v.ownBlock :=
                ⟨rfl, rfl, rfl, by simp, fun k _ hk => setRow_other w g k _ (fun e => hk (by rw [hown, e]))⟩
              obtain ⟨h1, h2⟩ := h.upd m.hb m.live m.box hgb { b with xs := ys.take len ++ b.xs.drop ys.length } m.live L rfl (.inl rfl) rfl (by grind) (fun g' hg' => .inl hg')
                (fun g' c' _ hc' => by grind) (fun ex => by
                  refine ⟨by simp only [hlenX]; rw [m.tot, hxl], ⟨us.take len ++ vs.drop ys.length, ((src.reps.ext ex).take len).append ((m.reps.ext ex).drop ys.length), hsizes', ?_, ?_⟩, m.nilp, m.esz, ?_, fun hrow => ?_⟩
                  · intro v hv2
                    rw [hnew] at hv2
                    rcases List.mem_append.1 hv2 with hv2 | hv2
                    · exact hones v hv2
                    · exact m.ones v (List.mem_of_mem_drop hv2)
                  · simp only [hlenX]
                    refine ⟨hlen', .inr ⟨g, cap, _, tg, by rw [hv', hxl], hB, hheap, ?_, by omega, hm, ?_, ?_⟩⟩
                    · grind
                    · grind
                    grind
                  · intro y hy
                    rcases List.mem_append.1 hy with hy | hy
                    · exact fzV_ok (src.oks y (List.mem_of_mem_take hy))
                    · exact m.oks y (List.mem_of_mem_drop hy)
                  · intro y hy
                    rcases List.mem_append.1 hy with hy | hy
                    · exact fzV_noRef (src.oks y (List.mem_of_mem_take hy))
                    · exact m.fzs hrow y (List.mem_of_mem_drop hy))
              refine ⟨_, _, _, ?_, h1, h2, hnum _ (by grind) _ _⟩
              rw [hvv]
              have := run_copy_of (P := P) w t u ty e infe hd' hie (some ⟨g, 0 * L.esz, none⟩) len (cap - 0) sa ys.length sc (flat (us.take len)) _ hcsl hsn' hsrc' (fun a' ha' => by cases ha'; simpa using hrun) (fun hh => by cases hh)
              simpa [hmin] using this
        · cases hc
      · cases hc
    · cases hc
  · cases hc

end Go.Proofs.YtpikcdlhgiooaaaGreat.Le

/-
  An evaluator for the model's code over pure values: make, literals.
-/
namespace Go.Proofs.YtpikcdlhgiooaaaGreat.Le
set_option linter.unusedVariables false
open Go.RowKit (Below)

theorem flat_replicate {zv : Value} {s : Nat} (hs : 0 < s) (hz : zv.cells.size = s) (n : Nat) : ∀ k, (flat (List.replicate n zv))[k]? = if k < n * s then zv.cells[k % s]? else none := by
  intro k
  have := Go.Great.flat_get hs (List.replicate n zv) (fun v hv => by simp_all) k
  have h2 : (List.flatMap (fun v : Value => v.cells.toList) (List.replicate n zv))[k]? = (flat (List.replicate n zv))[k]? := rfl
  rw [← h2, this, List.getElem?_replicate]
  by_cases h : k < n * s
  · have : k / s < n := (Nat.div_lt_iff_lt_mul hs).2 h
    rw [if_pos this, if_pos h]
    rfl
  · have : ¬ k / s < n := fun hh => h ((Nat.div_lt_iff_lt_mul hs).1 hh)
    grind

theorem madeCells_flat {zv : Value} {s : Nat} (hs : 0 < s) (hz : zv.cells.size = s) (n : Nat) : (madeCells zv.cells (n * s)).toList = flat (List.replicate n zv) := by
  apply List.ext_getElem?
  intro k
  rw [flat_replicate hs hz]
  by_cases h : k < n * s
  · rw [if_pos h]
    have hm : k % s < zv.cells.size := by rw [hz]; exact Nat.mod_lt _ hs
    simp [madeCells, h, hz]
    simp_all
  · rw [if_neg h]
    simp [madeCells, h]

theorem zok_some {E : Env} {P : Program} (hE : EnvOK E) (hP : E.P = P) {e : TypeId} {ei : TI} (hei : E.ti e = some ei) {z : V} (hz : ei.zero = some z) (σ : Sg) (w : World) :
    ∃ infe zv, P.info? e = some infe ∧ infe.zero = some zv ∧ infe.size = ei.size ∧ infe.bytes = ei.bytes ∧ Reps σ w [z] [zv] := by
  obtain ⟨infe, de, hie, hde, e1, e2, e3, e4⟩ := tiOf_some (hE.ti _ _ hei)
  rw [hP] at hie
  rw [hz] at e4
  cases hzz : infe.zero with
  | none => simp [hzz] at e4
  | some zv =>
    simp only [hzz, Option.map_some, Option.some.injEq] at e4
    exact ⟨infe, zv, hie, hzz, e2.symm, e3.symm, by rw [e4]; exact ofConst_reps σ w zv⟩

theorem ofCell_noRef (v : Value) : noRef (ofCell v) = true := by
  unfold ofCell
  split
  · rfl
  · split <;> rfl

theorem ofConst_noRef (v : Value) : noRef (ofConst v) = true := by
  unfold ofConst
  split
  · split
    · rename_i cs _
      rw [show noRef (.agg (cs.toList.map ofCell)) = noRefs (cs.toList.map ofCell) from rfl, noRefs_iff]
      intro x hx
      obtain ⟨c, _, rfl⟩ := List.mem_map.1 hx
      exact ofCell_noRef c
    · rfl
  · split <;> rfl
  · split
    · exact ofCell_noRef _
    · rfl

theorem zero_noRef {E : Env} (hE : EnvOK E) {e : TypeId} {ei : TI} (hei : E.ti e = some ei) {z : V} (hz : ei.zero = some z) : noRef z = true := by
  obtain ⟨infe, de, hie, hde, e1, e2, e3, e4⟩ := tiOf_some (hE.ti _ _ hei)
  rw [hz] at e4
  cases hzz : infe.zero with
  | none => simp [hzz] at e4
  | some zv =>
    simp only [hzz, Option.map_some, Option.some.injEq] at e4
    rw [e4]
    exact ofConst_noRef zv

theorem make_ok {E B w0 σ H w} {P : Program} (hE : EnvOK E) (hP : E.P = P) (h : Inv B w0 σ H w) {k : Nat} (hk0 : freeB H k = true) {t e : TypeId} {ei : TI} {z : V} {kl kc : IntKind} {n m : Int}
    (ht : P.underlying t = some (.slice e)) (hei : E.ti e = some ei) (hz : ei.zero = some z)
    (h0 : 0 ≤ n) (hnm : n ≤ m) (hby : m.toNat * ei.bytes ≤ lim) (hmx : m ≤ maxLen) (hpos : 0 < ei.size) (hzl : z.cells.length = ei.size) (hzo : okV z = true) (es : List Nat) :
    ∃ v' w' σ', (Instr.makeSlice t (.int kl n) (.int kc m)).run P w = .ok v' w' ∧ Inv B w0 σ' (place H k (newBox true false e ei.size (List.replicate n.toNat (retype es z)))) w' ∧ Ext σ w σ' w' ∧
      Reps σ' w' [.lsl k 0 n.toNat n.toNat] [v'] := by
  obtain ⟨infe, zv, hie, hzv, hsz, hbz, hzr⟩ := zok_some hE hP hei hz σ w
  have hzs : zv.cells.size = ei.size := by rw [← hzr.cells_len hzo]; exact hzl
  have hmm : m ≤ 9223372036854775807 := by
    have : (maxLen : Int) = 9223372036854775807 := by simp [maxLen]
    omega
  have hbb : (infe.bytes : Int) * m ≤ 281474976710656 := by
    have h1 : ((m.toNat * ei.bytes : Nat) : Int) ≤ 140737488355328 := by
      have : m.toNat * ei.bytes ≤ 140737488355328 := by simpa [lim] using hby
      omega
    rw [Int.natCast_mul, Int.toNat_of_nonneg (by omega), Int.mul_comm] at h1
    rw [hbz]
    omega
  have hrun := run_make (P := P) w t e infe zv ht hie hzv kl kc n m h0 hnm hbb hmm
  rw [hsz] at hrun
  have hnn : n.toNat ≤ m.toNat := by omega
  have hrep := Reps.replicate n.toNat (retype_reps es hzr)
  have hsizes : ∀ u ∈ List.replicate n.toNat zv, u.cells.size = ei.size := fun u hu => by simp_all
  have hones : ∀ u ∈ flat (List.replicate n.toNat zv), u.oneCell' = true := by
    intro u hu
    simp only [flat, List.mem_flatMap] at hu
    obtain ⟨a, ha, hb⟩ := hu
    rw [(List.mem_replicate.1 ha).2] at hb
    exact (hzr.cells hzo).2 u hb
  have hlen : (List.replicate n.toNat (retype es z)).length = n.toNat := by simp
  have hmd := madeCells_flat hpos hzs m.toNat
  have hown : (w.alloc (.cells (madeCells zv.cells (m.toNat * ei.size)) e)).ownsRow B e ei.size (.slice (some ⟨w.heap.size, 0, none⟩) n.toNat m.toNat) (List.replicate n.toNat (retype es z)).length (flat (List.replicate n.toNat zv)) := by
    rw [hlen]
    refine ⟨by rw [flat_length hsizes]; simp, .inr ⟨w.heap.size, m.toNat, _, rfl, h.size, heap_alloc_new w _, hnn, by omega, size_madeCells _ _, ?_⟩⟩
    rw [hmd]
    have : List.replicate n.toNat zv = (List.replicate m.toNat zv).take n.toNat := by rw [List.take_replicate, Nat.min_eq_left hnn]
    rw [this, flat_take (e := ei.size) (fun u hu => by rw [(List.mem_replicate.1 hu).2]; exact hzs)]
  obtain ⟨σ', h1, h2, h3⟩ := push_ok (e := e) (esz := ei.size) h hk0 (w.grownBy_alloc _ none) hrep (fun x hx => by rw [(List.mem_replicate.1 hx).2]; simp [fzV, retype_ok, retype_noRef, hzo, zero_noRef hE hei hz]) hsizes hones (.of hown) (by simp [Value.ownBlock]) false (by simp)
  grind

/-! ### literals -/

theorem fill_step (v : Value) (off : Nat) (cs : Array Value) (h : off + v.cells.size ≤ cs.size) :
    (v.cells.zipIdx.foldl (fun cs (x : Value × Nat) => cs.setIfInBounds (off + x.2) x.1) cs).toList = cs.toList.take off ++ v.cells.toList ++ cs.toList.drop (off + v.cells.size) := by
  obtain ⟨h1, h2⟩ := Go.Great.foldl_set off v.cells.toList 0 cs
  have he : v.cells.zipIdx.foldl (fun cs (x : Value × Nat) => cs.setIfInBounds (off + x.2) x.1) cs = (v.cells.toList.zipIdx 0).foldl (fun cs (x : Value × Nat) => cs.setIfInBounds (off + x.2) x.1) cs := by
    rw [← Array.foldl_toList]
    simp
  rw [he]
  apply List.ext_getElem?
  intro k
  rw [Array.getElem?_toList, h2 k]
  simp only [Nat.add_zero, Array.length_toList]
  by_cases hk1 : k < off
  · grind
  · by_cases hk2 : k < off + v.cells.size
    · grind
    · rw [if_neg (by omega), List.append_assoc, List.getElem?_append_right (by simp; omega), List.getElem?_append_right (by simp; omega), List.getElem?_drop, Array.getElem?_toList]
      congr 1
      simp
      omega

/-- The parts of a literal, as values. -/
inductive Parts (σ : Sg) (w : World) : List (Nat × V) → List (Nat × Value) → Prop where
  | nil : Parts σ w [] []
  | cons {i x v xs vs} : Reps σ w [x] [v] → Parts σ w xs vs → Parts σ w ((i, x) :: xs) ((i, v) :: vs)

theorem fill_reps {σ w} {place : Nat → Option (Nat × Nat)} : ∀ {parts : List (Nat × V)} {vparts : List (Nat × Value)} {cs cs' : List V} {ws : List Value}, Parts σ w parts vparts → Reps σ w cs ws → (∀ u ∈ ws, u.oneCell' = true) →
    fillV cs parts place = some cs' → ∃ ws', Instr.fill place ws.toArray vparts = some ws'.toArray ∧ Reps σ w cs' ws' ∧ (∀ u ∈ ws', u.oneCell' = true) := by
  intro parts
  induction parts with
  | nil =>
    intro vparts cs cs' ws hp hr ho hf
    cases hp
    simp only [fillV, Option.some.injEq] at hf
    subst hf
    exact ⟨ws, rfl, hr, ho⟩
  | cons p parts ih =>
    intro vparts cs cs' ws hp hr ho hf
    cases hp with
    | cons hx hp =>
      rename_i i x v vs
      simp only [fillV] at hf
      split at hf
      · cases hf
      · rename_i off size hpl
        split at hf
        · rename_i hc
          simp only [Bool.and_eq_true, beq_iff_eq, decide_eq_true_eq] at hc
          obtain ⟨⟨c1, c2⟩, c3⟩ := hc
          obtain ⟨hcr, hco⟩ := hx.cells c3
          have hvs : v.cells.size = size := by rw [← hx.cells_len c3]; exact c1
          have hlen := hr.length
          have hstep := fill_step v off ws.toArray (by simp; omega)
          have hr' : Reps σ w (cs.take off ++ x.cells ++ cs.drop (off + size)) (ws.take off ++ v.cells.toList ++ ws.drop (off + size)) := ((hr.take off).append hcr).append (hr.drop _)
          obtain ⟨ws', f1, f2, f3⟩ := ih hp hr' (by
            grind) hf
          refine ⟨ws', ?_, f2, f3⟩
          simp only [Instr.fill, hpl, hvs]
          have hcond : (decide (size ≠ size) || decide (off + size > ws.toArray.size)) = false := by simp; omega
          simp only [ne_eq, not_true_eq_false, decide_false, Bool.false_or, List.size_toArray, gt_iff_lt, decide_eq_true_eq]
          rw [if_neg (by omega)]
          rw [← f1]
          congr 1
          grind
        · cases hf

end Go.Proofs.YtpikcdlhgiooaaaGreat.Le

/-
  An evaluator for the model's code over pure values: struct, array and slice literals.
-/
namespace Go.Proofs.YtpikcdlhgiooaaaGreat.Le
set_option linter.unusedVariables false
open Go.RowKit (Below)

theorem tyOf_struct {d : TypeDesc} {fs : List (Nat × Nat)} (h : Ty.struct fs = tyOf d) : ∃ fields, d = .struct fields ∧ fs = fields.toList.map fun f => (f.offset, f.type) := by
  cases d <;> simp [tyOf] at h
  exact ⟨_, rfl, h⟩
theorem tyOf_array {d : TypeDesc} {n e : Nat} (h : Ty.array n e = tyOf d) : d = .array n e := by
  cases d <;> simp [tyOf] at h
  rw [h.1, h.2]

theorem places_mapM {E : Env} {P : Program} (hE : EnvOK E) (hP : E.P = P) : ∀ (fields : List Field), (∀ f ∈ fields, (E.ti f.type).isSome = true) →
    ∃ places : List (Nat × Nat), fields.mapM (fun f => (P.info? f.type).map fun i => (f.offset, i.size)) = some places ∧ places.length = fields.length ∧
      ∀ i : Nat, places[i]? = placesOf E (fields.map fun f => (f.offset, f.type)) i
  | [], _ => ⟨[], rfl, rfl, fun i => by simp [placesOf]⟩
  | f :: fields, h => by
    obtain ⟨places, h1, h2, h3⟩ := places_mapM hE hP fields (fun g hg => h g (by simp [hg]))
    have hf := h f (by simp)
    cases hti : E.ti f.type with
    | none => simp [hti] at hf
    | some ti =>
      obtain ⟨inf, d, hi, hd, q1, q2, q3, q4⟩ := tiOf_some (hE.ti _ _ hti)
      rw [hP] at hi
      refine ⟨(f.offset, inf.size) :: places, ?_, by simp [h2], ?_⟩
      · simp_all
      · intro i
        cases i with
        | zero => simp [placesOf, hti, q2]
        | succ i => simpa [placesOf] using h3 i

theorem build_ok {E : Env} {σ w} {P : Program} (hE : EnvOK E) (hP : E.P = P) {t : TypeId} {parts : List (Nat × V)} {vparts : Array (Nat × Value)} {x : V} (hp : Parts σ w parts vparts.toList) (hb : buildD E t parts = some x) :
    ∃ u, (Instr.build t vparts).run P w = .ok u w ∧ Reps σ w [x] [u] := by
  unfold buildD at hb
  split at hb
  · rename_i i hti
    obtain ⟨inf, d, hi, hd, q1, q2, q3, q4⟩ := tiOf_some (hE.ti _ _ hti)
    rw [hP] at hi hd
    split at hb
    · rename_i z hz
      split at hb
      · rename_i hzo
        rw [hz] at q4
        cases hzz : inf.zero with
        | none => simp [hzz] at q4
        | some zv =>
          simp only [hzz, Option.map_some, Option.some.injEq] at q4
          have hzr : Reps σ w [z] [zv] := by rw [q4]; exact ofConst_reps σ w zv
          obtain ⟨hcr, hco⟩ := hzr.cells hzo
          split at hb
          · rename_i fs hfs
            obtain ⟨fields, hdf, hfl⟩ := tyOf_struct (hfs.symm.trans q1)
            split at hb
            · rename_i hall
              cases hf : fillV z.cells parts (placesOf E fs) with
              | none => simp [hf] at hb
              | some cs =>
                simp only [hf, Option.map_some, Option.some.injEq] at hb
                subst hb
                obtain ⟨places, m1, m2, m3⟩ := places_mapM hE hP fields.toList (by
                  intro f hf
                  have := List.all_eq_true.1 hall (f.offset, f.type) (by rw [hfl]; exact List.mem_map.2 ⟨f, hf, rfl⟩)
                  exact this)
                have hpl : (fun i : Nat => places.toArray[i]?) = placesOf E fs := by
                  funext i
                  rw [hfl, ← m3 i]
                  simp
                obtain ⟨ws, f1, f2, f3⟩ := fill_reps hp hcr hco hf
                refine ⟨.agg ws.toArray, run_build w t vparts ws.toArray ?_, .agg f2 f3 .nil⟩
                simp only [Program.built, hi, hd, hdf, hzz, m1]
                simp_all
            · cases hb
          · rename_i n e hfs
            have hdf := tyOf_array (hfs.symm.trans q1)
            split at hb
            · rename_i ei hei
              obtain ⟨infe, de, hie, hde, e1, e2, e3, e4⟩ := tiOf_some (hE.ti _ _ hei)
              rw [hP] at hie
              cases hf : fillV z.cells parts (fun i => some (i * ei.size, ei.size)) with
              | none => simp [hf] at hb
              | some cs =>
                simp only [hf, Option.map_some, Option.some.injEq] at hb
                subst hb
                obtain ⟨ws, f1, f2, f3⟩ := fill_reps hp hcr hco hf
                refine ⟨.agg ws.toArray, run_build w t vparts ws.toArray ?_, .agg f2 f3 .nil⟩
                simp only [Program.built, hi, hd, hdf, hzz, hie, ← e2]
                simpa using f1
            · cases hb
          · cases hb
      · cases hb
    · cases hb
  · cases hb

/-! ### slice literals -/

theorem fillE_reps {σ w} {sz : Nat} : ∀ {parts : List (Nat × V)} {vparts : List (Nat × Value)} {xs xs' : List V} {us : List Value}, Parts σ w parts vparts → Reps σ w xs us → (∀ x ∈ xs, okV x = true) → (∀ u ∈ us, u.cells.size = sz) → (∀ u ∈ flat us, u.oneCell' = true) →
    fillE xs sz parts = some xs' → ∃ us', Instr.fill (fun i => some (i * sz, sz)) (flat us).toArray vparts = some (flat us').toArray ∧ Reps σ w xs' us' ∧ (∀ x ∈ xs', okV x = true) ∧ (∀ u ∈ us', u.cells.size = sz) ∧ (∀ u ∈ flat us', u.oneCell' = true) ∧ xs'.length = xs.length := by
  intro parts
  induction parts with
  | nil =>
    intro vparts xs xs' us hp hr hk hs ho hf
    cases hp
    simp only [fillE, Option.some.injEq] at hf
    subst hf
    exact ⟨us, rfl, hr, hk, hs, ho, rfl⟩
  | cons p parts ih =>
    intro vparts xs xs' us hp hr hk hs ho hf
    cases hp with
    | cons hx hp =>
      rename_i i x v vs
      simp only [fillE] at hf
      split at hf
      · rename_i hc
        simp only [Bool.and_eq_true, beq_iff_eq, decide_eq_true_eq] at hc
        obtain ⟨⟨c1, c2⟩, c3⟩ := hc
        obtain ⟨hcr, hco⟩ := hx.cells c3
        have hvs : v.cells.size = sz := by rw [← hx.cells_len c3]; exact c1
        have hlen := hr.length
        have hi : i < us.length := by omega
        have hget : us[i]? = some us[i] := List.getElem?_eq_getElem hi
        have hfs := flat_set hs hget hvs
        have hfl : (flat us).length = us.length * sz := flat_length hs
        have hle : i * sz + sz ≤ us.length * sz := by rw [← Nat.succ_mul]; exact Nat.mul_le_mul_right _ hi
        have hstep := fill_step v (i * sz) (flat us).toArray (by simp_all)
        obtain ⟨us', f1, f2, f3, f4, f5, f6⟩ := ih hp (hr.set i hx) (by
          grind) (by
          grind) (by
          grind) hf
        refine ⟨us', ?_, f2, f3, f4, f5, by rw [f6]; simp⟩
        simp only [Instr.fill, hvs]
        simp only [ne_eq, not_true_eq_false, decide_false, Bool.false_or, List.size_toArray, gt_iff_lt, decide_eq_true_eq]
        rw [if_neg (by rw [hfl]; omega)]
        rw [← f1]
        congr 1
        grind
      · cases hf

theorem parts_unzip {σ w} : ∀ {parts : List (Nat × V)} {vparts : List (Nat × Value)}, Parts σ w parts vparts → Reps σ w (parts.map (·.2)) (vparts.map (·.2)) ∧ parts.map (·.1) = vparts.map (·.1) := by
  intro parts
  induction parts with
  | nil => intro vparts h; cases h; exact ⟨.nil, rfl⟩
  | cons p parts ih =>
    intro vparts h
    cases h with
    | cons hx hp =>
      obtain ⟨h1, h2⟩ := ih hp
      exact ⟨Reps.cons_iff.2 ⟨hx, h1⟩, by simp [h2]⟩

theorem zip_fst_snd {α β : Type} : ∀ (l : List (α × β)), (l.map (·.1)).zip (l.map (·.2)) = l
  | [] => rfl
  | x :: l => by simp [zip_fst_snd l]

theorem parts_zip {σ w} : ∀ {is : List Nat} {xs : List V} {vs : List Value}, Reps σ w xs vs → is.length = xs.length → Parts σ w (is.zip xs) (is.zip vs) := by
  intro is
  induction is with
  | nil => intro xs vs h hl; exact .nil
  | cons i is ih =>
    intro xs vs h hl
    cases xs with
    | nil => simp at hl
    | cons x xs =>
      obtain ⟨v, vs', rfl, h1, h2⟩ := h.cons_left
      exact .cons h1 (ih h2 (by simpa using hl))

theorem fillE_noRef {sz : Nat} : ∀ {parts : List (Nat × V)} {xs xs' : List V}, (∀ x ∈ xs, noRef x = true) → (∀ p ∈ parts, noRef p.2 = true) → fillE xs sz parts = some xs' → ∀ x ∈ xs', noRef x = true
  | [], xs, xs', hx, hp, hf => by
    simp only [fillE, Option.some.injEq] at hf
    subst hf
    exact hx
  | (i, v) :: rest, xs, xs', hx, hp, hf => by
    simp only [fillE] at hf
    split at hf
    · refine fillE_noRef (fun x hx' => ?_) (fun p hp' => hp p (List.mem_cons_of_mem _ hp')) hf
      rcases List.mem_or_eq_of_mem_set hx' with h | h
      · exact hx x h
      simp_all
    · cases hf

theorem buildSlice_ok {E B w0 σ H w} {P : Program} (hE : EnvOK E) (hP : E.P = P) (h : Inv B w0 σ H w) {k : Nat} (hk0 : freeB H k = true) {t : TypeId} {n : Nat} {parts : List (Nat × V)} {vparts : Array (Nat × Value)} {r : V} {H' : Heap}
    (hp : Parts σ w parts vparts.toList) (hb : buildSliceD E k H t n parts = some (r, H')) :
    ∃ u w' σ', (Instr.buildSlice t n vparts).run P w = .ok u w' ∧ Inv B w0 σ' H' w' ∧ Ext σ w σ' w' ∧ Reps σ' w' [r] [u] := by
  unfold buildSliceD at hb
  split at hb
  · rename_i e sz by' z0 hti
    split at hb
    · rename_i ei hei
      split at hb
      · rename_i z vs hz hf
        split at hb
        · rename_i hc
          obtain ⟨c1, c2, c3, c4, c5⟩ := hc
          split at hb
          · rename_i xs hfe
            simp only [Option.some.injEq, Prod.mk.injEq] at hb
            obtain ⟨rfl, rfl⟩ := hb
            obtain ⟨inf, d, hi, hd, q1, q2, q3, q4⟩ := tiOf_some (hE.ti _ _ hti)
            have hd' : P.underlying t = some (.slice e) := by rw [hP] at hd; rw [hd, tyOf_slice q1]
            obtain ⟨infe, zv, hie, hzv, hsz, hbz, _⟩ := zok_some hE hP hei hz σ w
            obtain ⟨hI, hEx⟩ := h.freeze ((parts.map (·.2)).flatMap idsA)
            have hzr : Reps (σ.freeze H ((parts.map (·.2)).flatMap idsA)) w [z] [zv] := by
              obtain ⟨infe', zv', hie', hzv', _, _, hr⟩ := zok_some hE hP hei hz (σ.freeze H ((parts.map (·.2)).flatMap idsA)) w
              rw [hie] at hie'
              cases hie'
              rw [hzv] at hzv'
              cases hzv'
              exact hr
            have hzs : zv.cells.size = ei.size := by rw [← hzr.cells_len c4]; exact c3
            obtain ⟨hu1, hu2⟩ := parts_unzip hp
            have hfr := frzAll_reps h hu1 hf _ (fun i hi => hi)
            have hfr' := retypes_reps (E.rows e) hfr
            have hlen : (parts.map (·.1)).length = (vs.map (retype (E.rows e))).length := by rw [hfr'.length, ← hu1.length]; simp
            have hpz := parts_zip hfr' hlen
            have hvp : (parts.map (·.1)).zip (vparts.toList.map (·.2)) = vparts.toList := by
              rw [hu2]
              exact zip_fst_snd _
            rw [hvp] at hpz
            have hones : ∀ u ∈ flat (List.replicate n zv), u.oneCell' = true := by
              intro u hu
              simp only [flat, List.mem_flatMap] at hu
              obtain ⟨a, ha, hb⟩ := hu
              rw [(List.mem_replicate.1 ha).2] at hb
              exact (hzr.cells c4).2 u hb
            obtain ⟨us', f1, f2, f3, f4, f5, f6⟩ := fillE_reps hpz (Reps.replicate n (retype_reps (E.rows e) hzr)) (fun x hx => by rw [(List.mem_replicate.1 hx).2, retype_ok]; exact c4) (fun u hu => by rw [(List.mem_replicate.1 hu).2]; exact hzs) hones hfe
            have hxl : xs.length = n := by rw [f6]; simp
            have hnm : n ≤ maxLen := by
              have : n ≤ n * ei.size := Nat.le_mul_of_pos_right _ c2
              simp [maxLen]
              omega
            obtain ⟨σ', i1, i2, i3⟩ := newRow_ok (n := n) hI (k := k) (by rw [freeB_bump]; exact hk0) e true f2 (fun _ => fillE_noRef (fun x hx => by rw [(List.mem_replicate.1 hx).2, retype_noRef]; exact zero_noRef hE hei hz) (fun p hp => by
              obtain ⟨q, hq, hq'⟩ := List.mem_map.1 (List.of_mem_zip hp).2
              rw [← hq', retype_noRef]
              exact (noRefs_iff vs).1 (frzAll_noRef h hu1 hf) q hq) hfe) f3 f4 f5 (by rw [hxl]; exact hnm)
            rw [hxl] at i3
            refine ⟨.slice (some ⟨w.heap.size, 0, none⟩) n n, _, σ', ?_, i1, hEx.trans i2, ?_⟩
            · by_cases hn : n = 0
              · subst hn
                have hpn : parts = [] := by simpa using c5
                subst hpn
                cases hp0 : vparts.toList with
                | nil =>
                  have : vparts = #[] := by simpa using hp0
                  subst this
                  have hx : xs = [] := List.eq_nil_of_length_eq_zero hxl
                  subst hx
                  cases f2.nil_left
                  simp [Instr.buildSlice, run_underlying hd', sizeOf, typeInfo, hie, Instr.fill, newRow, flat, Array.range_zero']
                | cons a b => simp_all
              · have hpos : ¬ n * infe.size = 0 := by rw [hsz]; exact Nat.mul_ne_zero hn (by omega)
                refine run_buildSlice w t e n vparts (flat us').toArray infe zv hd' hie hzv (by rw [hsz]; omega) hpos ?_
                rw [hsz]
                have hm : (Array.range (n * ei.size)).map (zv.cells[· % zv.cells.size]!) = (flat (List.replicate n zv)).toArray := by
                  apply Array.ext'
                  exact madeCells_flat c2 hzs n
                simp_all
            · exact .lsl (L := ⟨.slice (some ⟨w.heap.size, 0, none⟩) n n, n, ei.size⟩) i3 (Nat.le_refl _) (fun _ => ⟨by omega, _, _, _, 0, rfl, by simp [Addr.add], Nat.zero_le _, Nat.le_refl _, fun _ => rfl⟩) ⟨_, _, _, rfl⟩ .nil
          · cases hb
        · cases hb
      · cases hb
    · cases hb
  · cases hb

end Go.Proofs.YtpikcdlhgiooaaaGreat.Le

/-
  An evaluator for the model's code over pure values: slice expressions, addresses, parts.
-/
namespace Go.Proofs.YtpikcdlhgiooaaaGreat.Le
set_option linter.unusedVariables false
open Go.RowKit (Below)

theorem addr_add_add (a : Addr) (x y : Nat) : (a.add x).add y = a.add (x + y) := by
  unfold Addr.add
  grind

/-! ### lengths -/

theorem lenOf_ok {B w0 σ H w} (h : Inv B w0 σ H w) {x : V} {v : Value} {n : Nat} (hr : Reps σ w [x] [v]) (hl : lenOf H x = some n) :
    (∃ s, x = .lit (.string s) ∧ v = .string s ∧ n = s.size) ∨ ∃ a c, v = .slice a n c ∧ n ≤ c := by
  unfold lenOf at hl
  split at hl
  · simp only [Option.some.injEq] at hl
    subst hl
    right
    cases hr with
    | slnil _ => simp_all
    | slemp a _ => simp_all
    | sl b o c e k0 k1 k2 k3 k4 k5 k6 k7 => grind
  · simp only [Option.some.injEq] at hl
    subst hl
    right
    cases hr with
    | sltnil _ => simp_all
    | sltemp a _ => simp_all
    | slt b o e k0 k1 k2 k3 k4 k5 k6 => grind
  · rename_i id off len tot
    split at hl
    · rename_i b hb
      simp only [Option.some.injEq] at hl
      subst hl
      right
      obtain ⟨L, us, m, hxl, hol, hs, hview⟩ := lsl_view h hr hb
      grind
    · cases hl
  · rename_i s
    simp only [Option.some.injEq] at hl
    subst hl
    left
    cases hr with
    | lit _ _ => simp_all
  · cases hl

theorem len_ok {B w0 σ H w} {P : Program} (h : Inv B w0 σ H w) {x : V} {v : Value} {n : Nat} {t ty : TypeId} {d : TypeDesc} (hr : Reps σ w [x] [v]) (hl : lenOf H x = some n)
    (ht : P.underlying t = some d) (hd : (∃ e, d = .slice e) ∨ d = .string) (hc : (∃ e, d = .slice e) ↔ ∀ s, x ≠ .lit (.string s)) :
    (Builtin.len_ #[t] ty #[v]).run P w = .ok (.int .i64 n) w := by
  rcases lenOf_ok h hr hl with ⟨s, hx, hv, hn⟩ | ⟨a, c, hv, hn⟩
  · have hds : d = .string := by
      rcases hd with hd | hd
      · exact absurd hx (hc.1 hd s)
      · exact hd
    subst hv hn
    simp [Builtin.len_, run_underlying ht, hds, goInt]
  · have hds : ∃ e, d = .slice e := hc.2 (fun s hs => by subst hs; cases hr; cases hv)
    obtain ⟨e, hds⟩ := hds
    subst hv
    simp [Builtin.len_, run_underlying ht, hds, goInt]

/-! ### slice expressions -/

theorem boundD_ok {σ w} {P : Program} {x : V} {v : Value} {hi n : Nat} (code : BoundsCode) (hr : Reps σ w [x] [v]) (hb : boundD x hi = some n) :
    (Instr.sliceBound v hi code).run P w = .ok n w ∧ n ≤ hi := by
  unfold boundD at hb
  split at hb
  · rename_i k m
    split at hb
    · rename_i hc
      simp only [Option.some.injEq] at hb
      subst hb
      cases hr with
      | lit _ _ =>
        refine ⟨?_, by omega⟩
        simp [Instr.sliceBound, asIntOf, hc]
    · cases hb
  · cases hb

inductive OptRep (σ : Sg) (w : World) : Option V → Option Value → Prop where
  | none : OptRep σ w none none
  | some {x v} : Reps σ w [x] [v] → OptRep σ w (some x) (some v)

theorem boundD_up {σ w} {P : Program} {x : V} {v : Value} {n cap h : Nat} (code : BoundsCode) (hnc : n ≤ cap) (hr : Reps σ w [x] [v]) (eh : boundD x n = some h) : (Instr.sliceBound v cap code).run P w = .ok h w ∧ h ≤ n := by
  have hk := (boundD_ok (P := P) code hr eh).2
  refine ⟨?_, hk⟩
  have : boundD x cap = some h := by
    unfold boundD at eh ⊢
    split at eh
    · grind
    · cases eh
  exact (boundD_ok (P := P) _ hr this).1

/-- The bounds of a slice expression without a third one: both are at most the length. -/
theorem bounds_ok {σ w} {P : Program} {n cap : Nat} (hnc : n ≤ cap) (isSlice : Bool) {lo hi : Option V} {vlo vhi : Option Value} {l h : Nat}
    (hlo : OptRep σ w lo vlo) (hhi : OptRep σ w hi vhi)
    (eh : optBound hi n n = some h) (el : optBound lo h 0 = some l) :
    (Instr.sliceBounds isSlice n cap vlo vhi none).run P w = .ok (l, h, cap) w ∧ l ≤ h ∧ h ≤ n := by
  cases hhi with
  | none =>
    simp only [optBound, Option.some.injEq] at eh
    subst eh
    cases hlo with
    | none =>
      simp only [optBound, Option.some.injEq] at el
      subst el
      exact ⟨rfl, Nat.zero_le _, Nat.le_refl _⟩
    | some hr =>
      obtain ⟨r1, r2⟩ := boundD_ok (P := P) .sliceB hr el
      refine ⟨?_, r2, Nat.le_refl _⟩
      simp [Instr.sliceBounds, r1]
  | some hr' =>
    obtain ⟨q1, q2⟩ := boundD_up (P := P) (if isSlice then .sliceAcap else .sliceAlen) hnc hr' eh
    cases hlo with
    | none =>
      simp only [optBound, Option.some.injEq] at el
      subst el
      refine ⟨?_, Nat.zero_le _, q2⟩
      simp [Instr.sliceBounds, q1]
    | some hr =>
      obtain ⟨r1, r2⟩ := boundD_ok (P := P) .sliceB hr el
      refine ⟨?_, r2, q2⟩
      simp [Instr.sliceBounds, q1, r1]

/-- .. and with a third one that is the second. -/
theorem bounds3_ok {σ w} {P : Program} {n cap : Nat} (hnc : n ≤ cap) {lo : Option V} {xh xm : V} {vlo : Option Value} {vh vm : Value} {l h : Nat}
    (hlo : OptRep σ w lo vlo) (hhi : Reps σ w [xh] [vh]) (hmx : Reps σ w [xm] [vm])
    (eh : boundD xh n = some h) (em : boundD xm n = some h) (el : optBound lo h 0 = some l) :
    (Instr.sliceBounds true n cap vlo (some vh) (some vm)).run P w = .ok (l, h, h) w ∧ l ≤ h ∧ h ≤ n := by
  obtain ⟨m1, m2⟩ := boundD_up (P := P) .slice3Acap hnc hmx em
  have q1 : (Instr.sliceBound vh h .slice3B).run P w = .ok h w := by
    have : boundD xh h = some h := by
      unfold boundD at eh ⊢
      split at eh
      · grind
      · cases eh
    exact (boundD_ok (P := P) _ hhi this).1
  cases hlo with
  | none =>
    simp only [optBound, Option.some.injEq] at el
    subst el
    refine ⟨?_, Nat.zero_le _, m2⟩
    simp [Instr.sliceBounds, m1, q1]
  | some hr =>
    obtain ⟨r1, r2⟩ := boundD_ok (P := P) .slice3C hr el
    refine ⟨?_, r2, m2⟩
    simp [Instr.sliceBounds, m1, q1, r1]

theorem run_slice_slice {P : Program} {w : World} {t e : TypeId} {inf : TypeInfo} {a : Option Addr} {n c l h m : Nat} {lo hi mx : Option Value} (ht : P.underlying t = some (.slice e)) (hi' : P.info? e = some inf)
    (hb : (Instr.sliceBounds true n c lo hi mx).run P w = .ok (l, h, m) w) :
    (Instr.sliceAt t (.slice a n c) lo hi mx).run P w = .ok (.slice (if m = l then a else a.map (·.add (l * inf.size))) (h - l) (m - l)) w := by
  simp [Instr.sliceAt, Instr.slice, run_underlying ht, hb, sizeOf, typeInfo, hi']

theorem Lies.sub {σ w b o us e} (h : Lies σ w b o us) (hs : ∀ u ∈ us, u.cells.size = e) (l n : Nat) : Lies σ w b (o + l * e) ((us.drop l).take n) := by
  intro j u hu
  rw [flat_sub hs] at hu
  have hj : j < n * e := by
    have := (List.getElem?_eq_some_iff.1 hu).1
    simp at this
    omega
  rw [List.getElem?_take, if_pos hj, List.getElem?_drop] at hu
  have := h (l * e + j) u hu
  grind

/-- A part of an immutable slice, as the model cuts it. -/
theorem sl_cut {σ w} {es : List V} {us : List Value} {b o c e l h : Nat} (k0 : Reps σ w es us) (k1 : ∀ x ∈ es, fzV x = true) (k2 : ∀ u ∈ us, u.cells.size = e) (k3 : ∀ u ∈ flat us, u.oneCell' = true)
    (k4 : es.length ≤ c) (k5 : c ≤ maxLen) (k6 : Lies σ w b o us) (hl : l ≤ h) (hh : h ≤ es.length) (m : Nat) (hm : h ≤ m) (hm2 : m ≤ c) :
    Reps σ w [.sl false e ((es.drop l).take (h - l))] [.slice (if m = l then some ⟨b, o, none⟩ else (some (⟨b, o, none⟩ : Addr)).map (·.add (l * e))) (h - l) (m - l)] ∧
    (m = h → Reps σ w [.slt false e ((es.drop l).take (h - l))] [.slice (if m = l then some ⟨b, o, none⟩ else (some (⟨b, o, none⟩ : Addr)).map (·.add (l * e))) (h - l) (m - l)]) := by
  have hlen : ((es.drop l).take (h - l)).length = h - l := by simp; omega
  have haddr : ∃ o', (if m = l then some (⟨b, o, none⟩ : Addr) else (some (⟨b, o, none⟩ : Addr)).map (·.add (l * e))) = some ⟨b, o', none⟩ ∧ Lies σ w b o' ((us.drop l).take (h - l)) := by
    by_cases hml : m = l
    · rw [if_pos hml]
      refine ⟨o, rfl, ?_⟩
      have : h - l = 0 := by omega
      rw [this, List.take_zero]
      intro j u hu
      simp [flat] at hu
    · rw [if_neg hml]
      exact ⟨o + l * e, by simp [Addr.add_mid], k6.sub k2 l (h - l)⟩
  obtain ⟨o', ha, hlies⟩ := haddr
  rw [ha]
  have r := reps_sub k0 l (h - l)
  have ok : ∀ x ∈ (es.drop l).take (h - l), fzV x = true := fun x hx => k1 x (List.mem_of_mem_drop (List.mem_of_mem_take hx))
  have sz := sizes_take (sizes_drop k2 l) (h - l)
  have on := one_take (one_drop k3 l) (h - l)
  constructor
  · have := Reps.sl (σ := σ) (w := w) (xs := []) (vs := []) b o' (m - l) e r ok sz on (by rw [hlen]; omega) (by omega) hlies .nil
    rw [hlen] at this
    exact this
  · intro hmh
    have := Reps.slt (σ := σ) (w := w) (xs := []) (vs := []) b o' e r ok sz on (by rw [hlen]; omega) hlies .nil
    rw [hlen] at this
    rw [hmh]
    exact this

theorem fits_elem {E : Env} {P : Program} (hE : EnvOK E) (hP : E.P = P) {H : Heap} {t : TypeId} {x : V} (hx : ∀ s, x ≠ .lit (.string s)) (hf : sliceFits E H t x = true) :
    ∃ e inf, P.underlying t = some (.slice e) ∧ P.info? e = some inf ∧ eszIs H x inf.size = true := by
  unfold sliceFits at hf
  split at hf
  · exact absurd rfl (hx _)
  · split at hf
    · rename_i e sz by' z0 hti
      split at hf
      · rename_i ei hei
        obtain ⟨inf, d, hi, hd, q1, q2, q3, q4⟩ := tiOf_some (hE.ti _ _ hti)
        obtain ⟨infe, de, hie, hde, e1, e2, e3, e4⟩ := tiOf_some (hE.ti _ _ hei)
        rw [hP] at hd hie
        exact ⟨e, infe, by rw [hd, tyOf_slice q1], hie, by rw [← e2]; exact hf⟩
      · cases hf
    · cases hf

/-- A full slice expression over an immutable slice. -/
theorem cut3 {E : Env} {σ w} {P : Program} {x : V} {t te : TypeId} {inf : TypeInfo} {b : Bool} {e : Nat} {xs : List V} {v : Value} {lo : Option V} {xh xm : V} {vlo : Option Value} {vh vm : Value} {l h : Nat}
    (ht : P.underlying t = some (.slice te)) (hi' : P.info? te = some inf) (hes : (b || e == inf.size) = true)
    (hx : x = .sl b e xs ∨ x = .slt b e xs) (hr : Reps σ w [x] [v]) (hlo : OptRep σ w lo vlo) (hhi : Reps σ w [xh] [vh]) (hmx : Reps σ w [xm] [vm])
    (eh : boundD xh xs.length = some h) (em : boundD xm xs.length = some h) (el : optBound lo h 0 = some l) :
    ∃ u, (Instr.sliceAt t v vlo (some vh) (some vm)).run P w = .ok u w ∧ Reps σ w [.slt false e ((xs.drop l).take (h - l))] [u] := by
  have empc : ∀ e a, v = .slice (some a) 0 0 → xs = [] → ∃ u, (Instr.sliceAt t v vlo (some vh) (some vm)).run P w = .ok u w ∧ Reps σ w [.slt false e ((xs.drop l).take (h - l))] [u] := by
    intro e a hv hxs
    subst hv hxs
    obtain ⟨b1, b2, b3⟩ := bounds3_ok (P := P) (Nat.le_refl 0) hlo hhi hmx eh em el
    have hh0 : h = 0 := by simpa using b3
    have hl0 : l = 0 := by omega
    subst hh0
    subst hl0
    refine ⟨_, run_slice_slice ht hi' b1, ?_⟩
    simp
    exact .sltemp a .nil
  have nilc : ∀ e, v = .slice none 0 0 → xs = [] → ∃ u, (Instr.sliceAt t v vlo (some vh) (some vm)).run P w = .ok u w ∧ Reps σ w [.slt false e ((xs.drop l).take (h - l))] [u] := by
    intro e hv hxs
    subst hv hxs
    obtain ⟨b1, b2, b3⟩ := bounds3_ok (P := P) (Nat.le_refl 0) hlo hhi hmx eh em el
    have hh0 : h = 0 := by simpa using b3
    have hl0 : l = 0 := by omega
    subst hh0
    subst hl0
    refine ⟨_, run_slice_slice ht hi' b1, ?_⟩
    simp
    exact .sltnil .nil
  rcases hx with rfl | rfl
  · cases hr with
    | slnil _ => exact nilc e rfl rfl
    | slemp a _ => exact empc e a rfl rfl
    | sl b' o c e' k0 k1 k2 k3 k4 k5 k6 k7 =>
      have hee : e = inf.size := by simpa using hes
      obtain ⟨b1, b2, b3⟩ := bounds3_ok (P := P) k4 hlo hhi hmx eh em el
      refine ⟨_, run_slice_slice ht hi' b1, ?_⟩
      rw [← hee]
      exact (sl_cut k0 k1 k2 k3 k4 k5 k6 b2 b3 h (Nat.le_refl _) (by omega)).2 rfl
  · cases hr with
    | sltnil _ => exact nilc e rfl rfl
    | sltemp a _ => exact empc e a rfl rfl
    | slt b' o e' k0 k1 k2 k3 k4 k5 k6 =>
      have hee : e = inf.size := by simpa using hes
      obtain ⟨b1, b2, b3⟩ := bounds3_ok (P := P) (Nat.le_refl _) hlo hhi hmx eh em el
      refine ⟨_, run_slice_slice ht hi' b1, ?_⟩
      rw [← hee]
      exact (sl_cut k0 k1 k2 k3 (Nat.le_refl _) k4 k5 b2 b3 h (Nat.le_refl _) b3).2 rfl

theorem slice_ok {E B w0 σ H w} {P : Program} (hE : EnvOK E) (hP : E.P = P) (h : Inv B w0 σ H w) {t : TypeId} {x r : V} {v : Value} {lo hi mx : Option V} {vlo vhi vmx : Option Value} {H' : Heap}
    (hr : Reps σ w [x] [v]) (hlo : OptRep σ w lo vlo) (hhi : OptRep σ w hi vhi) (hmx : OptRep σ w mx vmx) (hs : sliceD E H t x lo hi mx = some (r, H')) :
    ∃ u σ', (Instr.sliceAt t v vlo vhi vmx).run P w = .ok u w ∧ Inv B w0 σ' H' w ∧ Ext σ w σ' w ∧ Reps σ' w [r] [u] := by
  unfold sliceD at hs
  split at hs
  · rename_i hfits
    split at hs
    · cases hs
    · rename_i n hn
      split at hs
      · cases hs
      · rename_i hh eh
        split at hs
        · cases hs
        · rename_i l el
          cases hmx with
          | none =>
            simp only at hs
            split at hs
            · -- a string
              rename_i s
              simp only [Option.some.injEq, Prod.mk.injEq] at hs
              obtain ⟨rfl, rfl⟩ := hs
              have hst : P.underlying t = some .string := by rw [← hP]; exact hE.isStr t hfits
              cases hr with
              | lit hlf _ =>
                have hns : n = s.size := by simpa [lenOf] using hn.symm
                subst hns
                obtain ⟨b1, b2, b3⟩ := bounds_ok (P := P) (Nat.le_refl _) false hlo hhi eh el
                refine ⟨.string (s.extract l hh), σ, ?_, h, Ext.refl σ w, .lit ?_ .nil⟩
                · simp [Instr.sliceAt, Instr.slice, run_underlying hst, b1]
                · have : s.size ≤ maxLen := by simpa [leaf] using hlf
                  simp only [leaf, decide_eq_true_eq, ByteArray.size_extract]
                  omega
            · rename_i b e xs
              simp only [Option.some.injEq, Prod.mk.injEq] at hs
              obtain ⟨rfl, rfl⟩ := hs
              obtain ⟨te, inf, ht, hi', hes⟩ := fits_elem hE hP (by simp) hfits
              cases hr with
              | slnil _ =>
                have hns : n = 0 := by simpa [lenOf] using hn.symm
                subst hns
                obtain ⟨b1, b2, b3⟩ := bounds_ok (P := P) (Nat.le_refl 0) true hlo hhi eh el
                have hh0 : hh = 0 := by omega
                have hl0 : l = 0 := by omega
                subst hh0
                subst hl0
                refine ⟨_, σ, run_slice_slice ht hi' b1, h, Ext.refl σ w, ?_⟩
                simp
                exact .slnil .nil
              | slemp a _ =>
                have hns : n = 0 := by simpa [lenOf] using hn.symm
                subst hns
                obtain ⟨b1, b2, b3⟩ := bounds_ok (P := P) (Nat.le_refl 0) true hlo hhi eh el
                have hh0 : hh = 0 := by omega
                have hl0 : l = 0 := by omega
                subst hh0
                subst hl0
                refine ⟨_, σ, run_slice_slice ht hi' b1, h, Ext.refl σ w, ?_⟩
                simp
                exact .slemp a .nil
              | sl b o c e k0 k1 k2 k3 k4 k5 k6 k7 =>
                have hns : n = xs.length := by simpa [lenOf] using hn.symm
                subst hns
                have hee : e = inf.size := by simpa [eszIs] using hes
                obtain ⟨b1, b2, b3⟩ := bounds_ok (P := P) k4 true hlo hhi eh el
                refine ⟨_, σ, run_slice_slice ht hi' b1, h, Ext.refl σ w, ?_⟩
                rw [← hee]
                exact (sl_cut k0 k1 k2 k3 k4 k5 k6 b2 b3 c (by omega) (Nat.le_refl _)).1
            · rename_i b e xs
              simp only [Option.some.injEq, Prod.mk.injEq] at hs
              obtain ⟨rfl, rfl⟩ := hs
              obtain ⟨te, inf, ht, hi', hes⟩ := fits_elem hE hP (by simp) hfits
              cases hr with
              | sltnil _ =>
                have hns : n = 0 := by simpa [lenOf] using hn.symm
                subst hns
                obtain ⟨b1, b2, b3⟩ := bounds_ok (P := P) (Nat.le_refl 0) true hlo hhi eh el
                have hh0 : hh = 0 := by omega
                have hl0 : l = 0 := by omega
                subst hh0
                subst hl0
                refine ⟨_, σ, run_slice_slice ht hi' b1, h, Ext.refl σ w, ?_⟩
                simp
                exact .slnil .nil
              | sltemp a _ =>
                have hns : n = 0 := by simpa [lenOf] using hn.symm
                subst hns
                obtain ⟨b1, b2, b3⟩ := bounds_ok (P := P) (Nat.le_refl 0) true hlo hhi eh el
                have hh0 : hh = 0 := by omega
                have hl0 : l = 0 := by omega
                subst hh0
                subst hl0
                refine ⟨_, σ, run_slice_slice ht hi' b1, h, Ext.refl σ w, ?_⟩
                simp
                exact .slemp a .nil
              | slt b o e k0 k1 k2 k3 k4 k5 k6 =>
                have hns : n = xs.length := by simpa [lenOf] using hn.symm
                subst hns
                have hee : e = inf.size := by simpa [eszIs] using hes
                obtain ⟨b1, b2, b3⟩ := bounds_ok (P := P) (Nat.le_refl _) true hlo hhi eh el
                refine ⟨_, σ, run_slice_slice ht hi' b1, h, Ext.refl σ w, ?_⟩
                rw [← hee]
                exact (sl_cut k0 k1 k2 k3 (Nat.le_refl _) k4 k5 b2 b3 xs.length b3 (Nat.le_refl _)).1
            · rename_i id off len tot
              simp only [Option.some.injEq, Prod.mk.injEq] at hs
              obtain ⟨rfl, rfl⟩ := hs
              obtain ⟨te, inf, ht, hi', hes⟩ := fits_elem hE hP (by simp) hfits
              cases hb : boxAt H id tot with
              | none => simp [lenOf, hb] at hn
              | some b =>
                have hns : n = len := by simpa [lenOf, hb] using hn.symm
                subst hns
                obtain ⟨L, us, m, hxl, hol, hsub, hview⟩ := lsl_view h hr hb
                have hLe : L.esz = inf.size := by
                  have : b.esz = inf.size := by simpa [eszIs, hb] using hes
                  rw [← m.esz]; exact this
                obtain ⟨a, nn, c, k, e1, e2, e3, e4, e5⟩ := hsub
                have hnc : nn ≤ c ∧ nn = tot := by
                  rcases m.shape with ⟨hv, hx, hu⟩ | ⟨g, cap, cur, tg, hv, hg, hhh, htg, hnn, hm, hsz, htk⟩
                  · rw [hv] at e1; cases e1; exact ⟨Nat.le_refl _, by rw [← hxl, hx]; rfl⟩
                  · rw [hv] at e1; cases e1; exact ⟨hnn, hxl⟩
                subst e2
                obtain ⟨b1, b2, b3⟩ := bounds_ok (P := P) (n := n) (cap := c - off) (by omega) true hlo hhi eh el
                refine ⟨_, σ, run_slice_slice ht hi' b1, h, Ext.refl σ w, ?_⟩
                refine .lsl m.box (by rw [m.tot, hxl]; exact Nat.le_refl _) (fun _ => ⟨by omega, a, nn, c, if c - off = l then k else k + l, e1, ?_, by omega, by split <;> omega, fun hlt => by split <;> omega⟩) ⟨_, _, _, rfl⟩ .nil
                rw [hLe]
                congr 1
                · split
                  · rfl
                  · cases a with
                    | none => rfl
                    | some ad => simp [addr_add_add, Nat.add_mul]
                · omega
            · cases hs
          | some hmr =>
            rename_i xm vm
            simp only at hs
            have common : ∀ k, boundD xm n = some k → k = hh → ∀ xh, hi = some xh → ∃ vh, vhi = some vh ∧ Reps σ w [xh] [vh] ∧ boundD xh n = some hh := by
              intro k hk hkh xh hxh
              subst hxh
              cases hhi with
              | some hhr => exact ⟨_, rfl, hhr, eh⟩
            split at hs
            · rename_i xh k xs' b e xs hk hxs
              split at hs
              · rename_i hkh
                simp only [Option.some.injEq, Prod.mk.injEq] at hs
                obtain ⟨rfl, rfl⟩ := hs
                obtain ⟨te, inf, ht, hi', hes⟩ := fits_elem hE hP (by simp) hfits
                obtain ⟨vh, hvh, hhr, ehh⟩ := common k hk hkh xh rfl
                have hns : n = xs.length := by simpa [lenOf] using hn.symm
                have hxx : xs' = xs := by simpa [elemsOf] using hxs.symm
                subst hns hxx hkh hvh
                obtain ⟨u, hu, hru⟩ := cut3 (E := E) (P := P) ht hi' (by simpa [eszIs] using hes) (.inl rfl) hr hlo hhr hmr ehh hk el
                exact ⟨u, σ, hu, h, Ext.refl σ w, hru⟩
              · cases hs
            · rename_i xh k xs' b e xs hk hxs
              split at hs
              · rename_i hkh
                simp only [Option.some.injEq, Prod.mk.injEq] at hs
                obtain ⟨rfl, rfl⟩ := hs
                obtain ⟨te, inf, ht, hi', hes⟩ := fits_elem hE hP (by simp) hfits
                obtain ⟨vh, hvh, hhr, ehh⟩ := common k hk hkh xh rfl
                have hns : n = xs.length := by simpa [lenOf] using hn.symm
                have hxx : xs' = xs := by simpa [elemsOf] using hxs.symm
                subst hns hxx hkh hvh
                obtain ⟨u, hu, hru⟩ := cut3 (E := E) (P := P) ht hi' (by simpa [eszIs] using hes) (.inr rfl) hr hlo hhr hmr ehh hk el
                exact ⟨u, σ, hu, h, Ext.refl σ w, hru⟩
              · cases hs
            · rename_i xh k xs' id off len tot hk hxs
              split at hs
              · rename_i hkh
                simp only [Option.some.injEq, Prod.mk.injEq] at hs
                obtain ⟨rfl, rfl⟩ := hs
                obtain ⟨te, inf, ht, hi', hes⟩ := fits_elem hE hP (by simp) hfits
                obtain ⟨vh, hvh, hhr, ehh⟩ := common k hk hkh xh rfl
                cases hb : boxAt H id tot with
                | none => simp [lenOf, hb] at hn
                | some b =>
                  have hns : n = len := by simpa [lenOf, hb] using hn.symm
                  have hbe : b.esz = inf.size := by simpa [eszIs, hb] using hes
                  obtain ⟨p1, p2, p3⟩ := boxAt_some hb
                  have hget : H.getD id default = b := by simp [List.getD, p1]
                  simp only [elemsOf, hb] at hxs
                  split at hxs
                  · rename_i hcc
                    simp only [Option.some.injEq] at hxs
                    simp only [Bool.and_eq_true, decide_eq_true_eq] at hcc
                    have hfz : frz0 H (.lsl id off len tot) = some (.sl false b.esz ((b.xs.drop off).take len)) := by
                      simp [frz0, hb, hcc.1, hcc.2]
                    obtain ⟨hI, hEx⟩ := h.freeze [id]
                    have hr' := frz0_reps h hr hfz [id] (by simp [ids1])
                    have hlen : xs'.length = n := by rw [← hxs, hns]; simp; omega
                    rw [hxs] at hr'
                    subst hkh hvh
                    rw [← hlen] at ehh hk
                    have hlo' : OptRep (σ.freeze H [id]) w lo vlo := by cases hlo with
                      | none => exact .none
                      | some q => exact .some (q.ext hEx)
                    obtain ⟨u, hu, hru⟩ := cut3 (E := E) (P := P) ht hi' (by simp [hbe]) (.inl rfl) hr' hlo' (hhr.ext hEx) (hmr.ext hEx) ehh hk el
                    grind
                  · cases hxs
              · cases hs
            · cases hs
  · cases hs

end Go.Proofs.YtpikcdlhgiooaaaGreat.Le

/-
  An evaluator for the model's code over pure values: addresses, parts, arithmetic, conversions.
-/
namespace Go.Proofs.YtpikcdlhgiooaaaGreat.Le
set_option linter.unusedVariables false
open Go.RowKit (Below)

theorem size_info {E : Env} {P : Program} (hE : EnvOK E) (hP : E.P = P) {t : TypeId} {n : Nat} (h : E.size t = some n) : ∃ inf, P.info? t = some inf ∧ inf.size = n := by
  unfold Env.size at h
  cases hti : E.ti t with
  | none => simp [hti] at h
  | some i =>
    obtain ⟨inf, d, hi, hd, q1, q2, q3, q4⟩ := tiOf_some (hE.ti _ _ hti)
    simp_all

theorem indexAddr_ok {E B w0 σ H w} {P : Program} (hE : EnvOK E) (hP : E.P = P) (h : Inv B w0 σ H w) {t : TypeId} {x i r : V} {xv iv : Value} (hx : Reps σ w [x] [xv]) (hi : Reps σ w [i] [iv])
    (hr : indexAddrD E H t x i = some r) : ∃ u, (Instr.indexAt t xv iv).run P w = .ok u w ∧ Reps σ w [r] [u] := by
  unfold indexAddrD at hr
  split at hr
  · rename_i k n ti hti
    obtain ⟨inf, d, hin, hd, q1, q2, q3, q4⟩ := tiOf_some (hE.ti _ _ hti)
    rw [hP] at hin hd
    cases hi with
    | lit hl _ =>
      split at hr
      · -- an immutable slice
        rename_i ty el b e xs hty
        have hds := tyOf_slice (hty.symm.trans q1)
        subst hds
        split at hr
        · rename_i hc
          obtain ⟨c1, c2, c3⟩ := hc
          obtain ⟨infe, hie, hse⟩ := size_info hE hP c3
          simp only [Option.some.injEq] at hr
          subst hr
          cases hx with
          | slnil _ => simp at c2; omega
          | slemp a _ => simp at c2; omega
          | sl b' o c e' k0 k1 k2 k3 k4 k5 k6 k7 =>
            refine ⟨.pointer (some ⟨b', o + n.toNat * e, none⟩), ?_, ?_⟩
            · simp [Instr.indexAt, asIntOf, run_underlying hd, c1, c2, sizeOf, typeInfo, hie, hse, Addr.add_mid]
            · have := Reps.ept (σ := σ) (w := w) (xs := []) (vs := []) b' o e n.toNat 0 k0 k1 k2 k3 k6 .nil
              simpa using this
        · cases hr
      · rename_i ty el b e xs hty
        have hds := tyOf_slice (hty.symm.trans q1)
        subst hds
        split at hr
        · rename_i hc
          obtain ⟨c1, c2, c3⟩ := hc
          obtain ⟨infe, hie, hse⟩ := size_info hE hP c3
          simp only [Option.some.injEq] at hr
          subst hr
          cases hx with
          | sltnil _ => simp at c2; omega
          | sltemp a _ => simp at c2; omega
          | slt b' o e' k0 k1 k2 k3 k4 k5 k6 =>
            refine ⟨.pointer (some ⟨b', o + n.toNat * e, none⟩), ?_, ?_⟩
            · simp [Instr.indexAt, asIntOf, run_underlying hd, c1, c2, sizeOf, typeInfo, hie, hse, Addr.add_mid]
            · have := Reps.ept (σ := σ) (w := w) (xs := []) (vs := []) b' o e n.toNat 0 k0 k1 k2 k3 k5 .nil
              simpa using this
        · cases hr
      · rename_i ty el id off len tot hty
        have hds := tyOf_slice (hty.symm.trans q1)
        subst hds
        split at hr
        · rename_i b hb
          split at hr
          · rename_i hc
            obtain ⟨c1, c2, c3⟩ := hc
            obtain ⟨infe, hie, hse⟩ := size_info hE hP c3
            simp only [Option.some.injEq] at hr
            subst hr
            obtain ⟨L, us, m, hxl, hol, hsub, hview⟩ := lsl_view h hx hb
            rcases hview with ⟨hv, hvv, ho, hl', ht⟩ | ⟨g, cap, k', hv, hvv, hle, hmx, hk1, hk2⟩
            · grind
            · have hk : k' = off := hk2 (by omega)
              subst hk
              subst hvv
              have hLe : L.esz = b.esz := m.esz.symm
              refine ⟨.pointer (some ⟨g, (k' + n.toNat) * L.esz + 0, none⟩), ?_, .ptr g m.box (by rw [m.tot, hxl]; exact Nat.le_refl _) (fun _ => ⟨_, _, hv⟩) rfl .nil⟩
              simp [Instr.indexAt, asIntOf, run_underlying hd, c1, c2, sizeOf, typeInfo, hie, hse, Addr.add_mid, Nat.add_mul, hLe]
          · cases hr
        · cases hr
      · rename_i ty len e id j off tot hty
        have hds := tyOf_array (hty.symm.trans q1)
        subst hds
        split at hr
        · rename_i sz hsz
          obtain ⟨infe, hie, hse⟩ := size_info hE hP hsz
          split at hr
          · rename_i hc
            simp only [Option.some.injEq] at hr
            subst hr
            cases hx with
            | ptr g k1 k2 k3 k4 _ =>
              subst k4
              refine ⟨.pointer (some ⟨g, j * _ + (off + n.toNat * sz), none⟩), ?_, .ptr g k1 k2 k3 rfl .nil⟩
              simp [Instr.indexAt, Instr.sureAddr, asIntOf, run_underlying hd, hc.1, hc.2, sizeOf, typeInfo, hie, hse, Addr.add_mid, Nat.add_assoc]
          · cases hr
        · cases hr
      · rename_i ty len e d' xs j off hty
        have hds := tyOf_array (hty.symm.trans q1)
        subst hds
        split at hr
        · rename_i sz hsz
          obtain ⟨infe, hie, hse⟩ := size_info hE hP hsz
          split at hr
          · rename_i hc
            simp only [Option.some.injEq] at hr
            subst hr
            cases hx with
            | ept b o e' i' off' k0 k1 k2 k3 k4 _ =>
              refine ⟨.pointer (some ⟨b, o + j * d' + (off + n.toNat * sz), none⟩), ?_, .ept b o d' j _ k0 k1 k2 k3 k4 .nil⟩
              simp [Instr.indexAt, Instr.sureAddr, asIntOf, run_underlying hd, hc.1, hc.2, sizeOf, typeInfo, hie, hse, Addr.add_mid, Nat.add_assoc]
          · cases hr
        · cases hr
      · cases hr
  · cases hr

theorem fieldAddr_ok {E σ w} {P : Program} (hE : EnvOK E) (hP : E.P = P) {t : TypeId} {x r : V} {xv : Value} {f : Nat} (hx : Reps σ w [x] [xv])
    (hr : fieldAddrD E t x f = some r) : ∃ u, (Instr.fieldAt t xv f).run P w = .ok u w ∧ Reps σ w [r] [u] := by
  unfold fieldAddrD at hr
  split at hr
  · rename_i fs sz by' z0 hti
    obtain ⟨inf, d, hin, hd, q1, q2, q3, q4⟩ := tiOf_some (hE.ti _ _ hti)
    rw [hP] at hd
    obtain ⟨fields, hdf, hfl⟩ := tyOf_struct q1
    subst hdf
    split at hr
    · rename_i o ft hft
      have hfield : ∃ fd, fields[f]? = some fd ∧ fd.offset = o ∧ fd.type = ft := by
        rw [hfl, List.getElem?_map] at hft
        rw [← Array.getElem?_toList]
        cases hh : fields.toList[f]? with
        | none => simp [hh] at hft
        | some fd =>
          simp only [hh, Option.map_some, Option.some.injEq, Prod.mk.injEq] at hft
          exact ⟨fd, rfl, hft.1, hft.2⟩
      obtain ⟨fd, hfd, hof, htf⟩ := hfield
      split at hr
      · rename_i fsz hsz
        obtain ⟨infe, hie, hse⟩ := size_info hE hP hsz
        split at hr
        · cases hr
        · rename_i hne
          have hplace : ∀ a : Addr, (fieldPlace a fd).run P w = .ok (a.add o) w := by
            intro a
            have hz : ¬ infe.size = 0 := by rw [hse]; exact hne
            simp [fieldPlace, sizeOf, typeInfo, htf, hie, hz, hof]
          split at hr
          · rename_i id j off tot
            simp only [Option.some.injEq] at hr
            subst hr
            cases hx with
            | ptr g k1 k2 k3 k4 _ =>
              subst k4
              refine ⟨.pointer (some ⟨g, j * _ + (off + o), none⟩), ?_, .ptr g k1 k2 k3 rfl .nil⟩
              simp [Instr.fieldAt, run_underlying hd, hfd, Instr.sureAddr, hplace, Addr.add_mid, Nat.add_assoc]
          · rename_i e xs j off
            simp only [Option.some.injEq] at hr
            subst hr
            cases hx with
            | ept b o' e' i' off' k0 k1 k2 k3 k4 _ =>
              refine ⟨.pointer (some ⟨b, o' + j * e + (off + o), none⟩), ?_, .ept b o' e j _ k0 k1 k2 k3 k4 .nil⟩
              simp [Instr.fieldAt, run_underlying hd, hfd, Instr.sureAddr, hplace, Addr.add_mid, Nat.add_assoc]
          · cases hr
      · cases hr
    · cases hr
  · cases hr

/-- A part of an aggregate. -/
theorem run_part {E : Env} {P : Program} {σ w} (hE : EnvOK E) (hP : E.P = P) {t : TypeId} {i : TI} (hti : E.ti t = some i) {cs : List V} {ws : List Value} {off : Nat} {x' : V}
    (h : Reps σ w cs ws) (ho : ∀ u ∈ ws, u.oneCell' = true) (hp : partOf cs off i.size i.isAgg = some x') :
    ∃ u, (part t ws.toArray off).run P w = .ok u w ∧ Reps σ w [x'] [u] := by
  obtain ⟨inf, d, hin, hd, q1, q2, q3, q4⟩ := tiOf_some (hE.ti _ _ hti)
  rw [hP] at hin hd
  have hag := tyOf_agg q1
  rcases part_reps h ho hp with ⟨ha, hle, hres⟩ | ⟨ha, u, hu, hres⟩
  · refine ⟨_, ?_, hres⟩
    have : d.isRow = true := by rw [← hag]; exact ha
    unfold part
    rw [Sem.run_bind, run_isAgg w hd, this]
    simp only [Result.andThen_ok, if_true, Sem.run_bind, run_sizeOf w hin, Sem.run_pure]
    simp_all
  · refine ⟨u, ?_, hres⟩
    have : d.isRow = false := by rw [← hag]; exact ha
    unfold part
    rw [Sem.run_bind, run_isAgg w hd, this]
    simp [hu]

theorem field_ok {E σ w} {P : Program} (hE : EnvOK E) (hP : E.P = P) {t : TypeId} {x r : V} {xv : Value} {f : Nat} (hx : Reps σ w [x] [xv])
    (hr : fieldD E t x f = some r) : ∃ u, (Instr.field t xv f).run P w = .ok u w ∧ Reps σ w [r] [u] := by
  unfold fieldD at hr
  split at hr
  · rename_i fs sz by' z0 cs hti
    obtain ⟨inf, d, hin, hd, q1, q2, q3, q4⟩ := tiOf_some (hE.ti _ _ hti)
    rw [hP] at hd
    obtain ⟨fields, hdf, hfl⟩ := tyOf_struct q1
    subst hdf
    split at hr
    · rename_i o ft hft
      have hfield : ∃ fd, fields[f]? = some fd ∧ fd.offset = o ∧ fd.type = ft := by
        rw [hfl, List.getElem?_map] at hft
        rw [← Array.getElem?_toList]
        cases hh : fields.toList[f]? with
        | none => simp [hh] at hft
        | some fd =>
          simp only [hh, Option.map_some, Option.some.injEq, Prod.mk.injEq] at hft
          exact ⟨fd, rfl, hft.1, hft.2⟩
      obtain ⟨fd, hfd, hof, htf⟩ := hfield
      split at hr
      · rename_i i hti'
        cases hx with
        | agg h1 h2 _ =>
          obtain ⟨u, hu, hres⟩ := run_part hE hP (t := fd.type) (by rw [htf]; exact hti') h1 h2 hr
          refine ⟨u, ?_, hres⟩
          rw [← hof] at hu
          simp [Instr.field, run_underlying hd, hfd, asAgg, hu]
      · cases hr
    · cases hr
  · cases hr

theorem index_ok {E σ w} {P : Program} (hE : EnvOK E) (hP : E.P = P) {t : TypeId} {x i r : V} {xv iv : Value} (hx : Reps σ w [x] [xv]) (hi : Reps σ w [i] [iv])
    (hr : indexD E t x i = some r) : ∃ u, (Instr.index t xv iv).run P w = .ok u w ∧ Reps σ w [r] [u] := by
  unfold indexD at hr
  split at hr
  · rename_i k n
    cases hi with
    | lit hl _ =>
      split at hr
      · rename_i len e sz by' z0 cs hti
        obtain ⟨inf, d, hin, hd, q1, q2, q3, q4⟩ := tiOf_some (hE.ti _ _ hti)
        rw [hP] at hd
        have hds := tyOf_array q1
        subst hds
        split at hr
        · rename_i ei hei
          obtain ⟨infe, de, hie, hde, e1, e2, e3, e4⟩ := tiOf_some (hE.ti _ _ hei)
          rw [hP] at hie
          split at hr
          · rename_i hc
            cases hx with
            | agg h1 h2 _ =>
              obtain ⟨u, hu, hres⟩ := run_part hE hP hei h1 h2 hr
              refine ⟨u, ?_, hres⟩
              rw [e2] at hu
              simp [Instr.index, asIntOf, run_underlying hd, hc.1, hc.2, sizeOf, typeInfo, hie, hu]
          · cases hr
        · cases hr
      · rename_i sz by' z0 s hti
        split at hr
        · rename_i hst
          have hd : P.underlying t = some .string := by rw [← hP]; exact hE.isStr t hst
          split at hr
          · rename_i h0
            cases hg : s[n.toNat]? with
            | none => simp [hg] at hr
            | some b =>
              simp only [hg, Option.map_some, Option.some.injEq] at hr
              subst hr
              cases hx with
              | lit _ _ =>
                refine ⟨.int .u8 b.toNat, ?_, .lit ?_ .nil⟩
                · simp [Instr.index, asIntOf, run_underlying hd, h0, hg]
                · have := b.toNat_lt
                  simp [leaf, Lit.wf, IntKind.min, IntKind.max, IntKind.signed, IntKind.bits]
                  omega
          · cases hr
        · cases hr
      · cases hr
  · cases hr

end Go.Proofs.YtpikcdlhgiooaaaGreat.Le

/-
  An evaluator for the model's code over pure values: arithmetic, comparisons, conversions.
-/
namespace Go.Proofs.YtpikcdlhgiooaaaGreat.Le
set_option linter.unusedVariables false
open Go.RowKit (Below)

theorem wf_iff (k : IntKind) (n : Int) : (Lit.int k n).wf = true ↔ k.min ≤ n ∧ n ≤ k.max := by simp [Lit.wf]
theorem kind_zero (k : IntKind) : k.min ≤ 0 ∧ 0 ≤ k.max := by cases k <;> decide
theorem wf_between {k : IntKind} {a n : Int} (h : (Lit.int k a).wf = true) (hn : (0 ≤ a ∧ 0 ≤ n ∧ n ≤ a) ∨ (a ≤ 0 ∧ a ≤ n ∧ n ≤ 0)) : (Lit.int k n).wf = true := by
  rw [wf_iff] at h ⊢
  have := kind_zero k
  omega

theorem tmod_between (a b : Int) : (0 ≤ a ∧ 0 ≤ a.tmod b ∧ a.tmod b ≤ a) ∨ (a ≤ 0 ∧ a ≤ a.tmod b ∧ a.tmod b ≤ 0) := by
  have key : ∀ x : Int, 0 ≤ x → 0 ≤ x.tmod b ∧ x.tmod b ≤ x := by
    intro x hx
    rw [Int.tmod_eq_emod_of_nonneg hx]
    by_cases hb : b = 0
    · subst hb; simp [hx]
    · refine ⟨Int.emod_nonneg x hb, ?_⟩
      have h1 := Int.emod_nonneg x hb
      have h2 := Int.mul_ediv_add_emod x b
      have h3 : 0 ≤ b * (x / b) := by
        rcases Int.lt_or_gt_of_ne hb with hb | hb
        · exact Int.mul_nonneg_of_nonpos_of_nonpos (by omega) (Int.ediv_nonpos_of_nonneg_of_nonpos hx (by omega))
        · exact Int.mul_nonneg (by omega) (Int.ediv_nonneg hx (by omega))
      omega
  rcases Int.le_total 0 a with h | h
  · simp_all
  · right
    have := key (-a) (by omega)
    rw [Int.neg_tmod] at this
    omega

theorem fdiv_between (a : Int) (n : Nat) : (0 ≤ a ∧ 0 ≤ a.fdiv (2 ^ n) ∧ a.fdiv (2 ^ n) ≤ a) ∨ (a ≤ 0 ∧ a ≤ a.fdiv (2 ^ n) ∧ a.fdiv (2 ^ n) ≤ 0) := by
  have hp : (0 : Int) < 2 ^ n := Int.pow_pos (by decide)
  rw [Int.fdiv_eq_ediv_of_nonneg _ (Int.le_of_lt hp)]
  have h2 := Int.mul_ediv_add_emod a (2 ^ n)
  have h3 := Int.emod_nonneg a (Int.ne_of_gt hp)
  have h4 := Int.emod_lt_of_pos a hp
  rcases Int.le_total 0 a with h | h
  · refine .inl ⟨h, Int.ediv_nonneg h (Int.le_of_lt hp), Int.ediv_le_self _ h⟩
  · right
    have h5 : a / 2 ^ n ≤ 0 := by
      rcases Int.lt_or_eq_of_le h with hl | he
      · exact Int.le_of_lt (Int.ediv_neg_of_neg_of_pos hl hp)
      · rw [he]; simp
    refine ⟨h, ?_, h5⟩
    rw [Int.le_ediv_iff_mul_le hp]
    have h1 : (1 : Int) ≤ 2 ^ n := hp
    have := Int.mul_le_mul_of_nonneg_left h1 (show 0 ≤ -a by omega)
    grind

theorem eqGuard_plain {P : Program} {w : World} (op : BinOp) (t : TypeId) (x y : Operand) (a b : Value) (h1 : ∀ cs, a ≠ .agg cs) (h2 : a ≠ .nilIface) : (eqGuard op t x y a b).run P w = .ok () w := by
  unfold eqGuard
  simp_all

/-- Integers. -/
theorem int_ok {P : Program} {w : World} {op : BinOp} {t : TypeId} {k : IntKind} {a b : Int} {r : Value} (ha : leaf (.int k a) = true) (hs : op ≠ .shl ∧ op ≠ .shr) (hr : intOp op k a b = some r) :
    (binOp op t (.int k a) (.int k b)).run P w = .ok r w ∧ leaf r = true := by
  have ha' : (Lit.int k a).wf = true := by simpa [leaf] using ha
  cases op <;> simp only [intOp, Option.some.injEq, reduceCtorEq] at hr
  all_goals try (exact absurd rfl hs.1)
  all_goals try (exact absurd rfl hs.2)
  all_goals try (subst hr; refine ⟨?_, rfl⟩; simp [binOp, Op.intCmp]; done)
  all_goals try (subst hr; refine ⟨?_, show (Lit.int _ _).wf = true from wf_wrap _ _⟩; simp [binOp, Op.intArith]; done)
  all_goals try (subst hr; refine ⟨?_, show (Lit.int _ _).wf = true from wf_bits _ _ _ _⟩; simp [binOp, Op.intBits, bits]; done)
  all_goals (split at hr)
  all_goals try (cases hr; done)
  all_goals rename_i hb
  all_goals simp only [Option.some.injEq] at hr
  all_goals subst hr
  · exact ⟨by simp [binOp, Op.intDiv, hb], show (Lit.int _ _).wf = true from wf_wrap _ _⟩
  · exact ⟨by simp [binOp, Op.intDiv, hb], show (Lit.int _ _).wf = true from wf_between ha' (tmod_between a b)⟩

theorem shift_ok {P : Program} {w : World} {op : BinOp} {t : TypeId} {k j : IntKind} {a b : Int} {r : Value} (ha : leaf (.int k a) = true) (hs : op = .shl ∨ op = .shr) (hr : shiftOp op k a b = some r) :
    (binOp op t (.int k a) (.int j b)).run P w = .ok r w ∧ leaf r = true := by
  have ha' : (Lit.int k a).wf = true := by simpa [leaf] using ha
  unfold shiftOp at hr
  split at hr
  · cases hr
  · rename_i hb
    rcases hs with rfl | rfl
    · simp only [Option.some.injEq] at hr
      subst hr
      exact ⟨by simp [binOp, Op.shift, hb], show (Lit.int _ _).wf = true from wf_wrap _ _⟩
    · simp only [Option.some.injEq] at hr
      subst hr
      exact ⟨by simp [binOp, Op.shift, hb], show (Lit.int _ _).wf = true from wf_between ha' (fdiv_between a _)⟩

theorem str_ok {P : Program} {w : World} {op : BinOp} {t : TypeId} {a b : ByteArray} {r : Value} (hr : strOp op a b = some r) :
    (binOp op t (.string a) (.string b)).run P w = .ok r w ∧ leaf r = true := by
  cases op <;> simp only [strOp, Option.some.injEq, reduceCtorEq] at hr
  · split at hr
    · rename_i hc
      simp only [decide_eq_true_eq] at hc
      simp only [Option.some.injEq] at hr
      subst hr
      have h63 : ¬ (9223372036854775807 < ((a.size + b.size : Nat) : Int)) := by simp [maxLen] at hc; omega
      refine ⟨?_, by simpa [leaf] using hc⟩
      simp only [binOp, Op.stringOp]
      simp_all
    · cases hr
  all_goals (subst hr; exact ⟨by simp [binOp, Op.stringOp], rfl⟩)

end Go.Proofs.YtpikcdlhgiooaaaGreat.Le

/-
  An evaluator for the model's code over pure values: equality of structs and arrays of scalars.
-/
namespace Go.Proofs.YtpikcdlhgiooaaaGreat.Le
set_option linter.unusedVariables false
open Go.RowKit (Below)

/-- What a cell of a kind is, as a key's part. -/
def fkLit : FK → Value → Option Lit
  | .b, .bool b => some (.bool b)
  | .i k, .int j n => if j = k ∧ (Lit.int k n).wf = true then some (.int k n) else none
  | .s, .string s => if s.size ≤ maxLen then some (.string s.data.toList) else none
  | _, _ => none

def fkLits : List FK → List Value → Option (List Lit)
  | [], [] => some []
  | k :: ks, v :: vs => match fkLit k v, fkLits ks vs with | some l, some ls => some (l :: ls) | _, _ => none
  | _, _ => none

theorem fkLits_len : ∀ {ks : List FK} {vs : List Value} {ls : List Lit}, fkLits ks vs = some ls → vs.length = ks.length ∧ ls.length = ks.length
  | [], [], ls, h => by simp [fkLits] at h; subst h; simp
  | [], v :: vs, ls, h => by simp [fkLits] at h
  | k :: ks, [], ls, h => by simp [fkLits] at h
  | k :: ks, v :: vs, ls, h => by
    simp only [fkLits] at h
    split at h
    · rename_i l ls' h1 h2
      simp only [Option.some.injEq] at h
      subst h
      obtain ⟨a, b⟩ := fkLits_len h2
      simp [a, b]
    · cases h

theorem fkLits_append : ∀ {ks ks' : List FK} {vs : List Value} {ls : List Lit}, fkLits (ks ++ ks') vs = some ls → ∃ l1 l2, fkLits ks (vs.take ks.length) = some l1 ∧ fkLits ks' (vs.drop ks.length) = some l2 ∧ ls = l1 ++ l2
  | [], ks', vs, ls, h => ⟨[], ls, by simp [fkLits], by simpa using h, rfl⟩
  | k :: ks, ks', [], ls, h => by simp [fkLits] at h
  | k :: ks, ks', v :: vs, ls, h => by
    simp only [List.cons_append, fkLits] at h
    split at h
    · rename_i l ls' h1 h2
      simp only [Option.some.injEq] at h
      subst h
      obtain ⟨l1, l2, a, b, c⟩ := fkLits_append h2
      exact ⟨l :: l1, l2, by simp [fkLits, h1, a], by simpa using b, by simp [c]⟩
    · cases h

theorem lits_fields {P : Program} {d : Nat} (ih : ∀ t ks vs ls, fkOf P d t = some ks → fkLits ks vs = some ls → P.keyLits d t vs = some ls) :
    ∀ (fs : List Field) (off : Nat) (ks : List FK) (vs : List Value) (ls : List Lit), fkFields P (fkOf P d) off fs = some ks → fkLits ks (vs.drop off) = some ls →
      (fs.mapM fun f => P.keyLits d f.type ((vs.drop f.offset).take (P.cellsOf f.type))).map List.flatten = some ls ∧ (∀ f ∈ fs, (f.name != "_") = true)
  | [], off, ks, vs, ls, h, hl => by
    simp only [fkFields, Option.some.injEq] at h
    subst h
    cases hd : vs.drop off with
    | nil => rw [hd] at hl; simp [fkLits] at hl; subst hl; simp
    | cons a b => rw [hd] at hl; simp [fkLits] at hl
  | f :: fs, off, ks, vs, ls, h, hl => by
    simp only [fkFields] at h
    split at h
    · rename_i hc
      obtain ⟨c1, c2⟩ := hc
      split at h
      · rename_i k1 hk1
        split at h
        · rename_i hsz
          split at h
          · rename_i rest hrest
            simp only [Option.some.injEq] at h
            subst h
            obtain ⟨l1, l2, a, b, rfl⟩ := fkLits_append hl
            rw [List.drop_drop] at b
            obtain ⟨r1, r2⟩ := lits_fields ih fs (off + k1.length) rest vs l2 hrest b
            have h1 := ih f.type k1 _ l1 hk1 a
            refine ⟨?_, ?_⟩
            · rw [List.mapM_cons]
              rw [c1, hsz, h1]
              cases hm : fs.mapM fun f => P.keyLits d f.type ((vs.drop f.offset).take (P.cellsOf f.type)) with
              | none => simp [hm] at r1
              | some ms =>
                simp_all
            simp_all
          · cases h
        · cases h
      · cases h
    · cases h

theorem lits_items {P : Program} {d : Nat} {e : TypeId} {ks : List FK} (ih : ∀ vs ls, fkLits ks vs = some ls → P.keyLits d e vs = some ls) (hsz : P.cellsOf e = ks.length) :
    ∀ (n s : Nat) (vs : List Value) (ls : List Lit), fkLits (List.replicate n ks).flatten (vs.drop (s * ks.length)) = some ls →
      ((List.range' s n).mapM fun i => P.keyLits d e ((vs.drop (i * P.cellsOf e)).take (P.cellsOf e))).map List.flatten = some ls
  | 0, s, vs, ls, h => by
    cases hd : vs.drop (s * ks.length) with
    | nil => rw [hd] at h; simp [fkLits] at h; subst h; simp
    | cons a b => rw [hd] at h; simp [fkLits] at h
  | n + 1, s, vs, ls, h => by
    rw [List.replicate_succ, List.flatten_cons] at h
    obtain ⟨l1, l2, a, b, rfl⟩ := fkLits_append h
    rw [List.drop_drop, ← Nat.succ_mul] at b
    have r := lits_items ih hsz n (s + 1) vs l2 b
    have h1 := ih _ l1 a
    rw [List.range'_succ, List.mapM_cons, hsz, h1]
    rw [hsz] at r
    cases hm : (List.range' (s + 1) n).mapM fun i => P.keyLits d e ((vs.drop (i * ks.length)).take ks.length) with
    | none => simp [hm] at r
    | some ms =>
      simp_all

theorem lits_ok {P : Program} : ∀ (d : Nat) (t : TypeId) (ks : List FK) (vs : List Value) (ls : List Lit), fkOf P d t = some ks → fkLits ks vs = some ls → P.keyLits d t vs = some ls
  | 0, t, ks, vs, ls, h, hl => by simp [fkOf] at h
  | d + 1, t, ks, vs, ls, h, hl => by
    have ih := lits_ok (P := P) d
    have hlen := fkLits_len hl
    unfold fkOf at h
    split at h
    · rename_i hu
      simp only [Option.some.injEq] at h
      subst h
      match vs, hl with
      | [v], hl =>
        cases v <;> simp [fkLits, fkLit] at hl
        subst hl
        simp [Program.keyLits, hu]
    · rename_i k hu
      simp only [Option.some.injEq] at h
      subst h
      match vs, hl with
      | [v], hl =>
        cases v <;> simp [fkLits, fkLit] at hl
        rename_i j n
        by_cases hc : j = k ∧ (Lit.int k n).wf = true
        · rw [if_pos hc] at hl
          simp at hl
          subst hl
          simp [Program.keyLits, hu, hc.1, hc.2]
        simp_all
    · rename_i hu
      simp only [Option.some.injEq] at h
      subst h
      match vs, hl with
      | [v], hl =>
        cases v <;> simp [fkLits, fkLit] at hl
        rename_i s
        by_cases hc : s.size ≤ maxLen
        · rw [if_pos hc] at hl
          simp at hl
          subst hl
          simp [Program.keyLits, hu, hc]
        simp_all
    · rename_i n e hu
      split at h
      · rename_i k1 hk1
        split at h
        · rename_i hc
          simp only [Option.some.injEq] at h
          subst h
          have hl2 : vs.length = P.cellsOf t := by rw [hlen.1, hc.2]; simp
          have r := lits_items (fun vs ls h => ih e k1 vs ls hk1 h) hc.1 n 0 vs ls (by simpa using hl)
          unfold Program.keyLits
          rw [hu]
          simp only [hl2, if_true, List.range_eq_range']
          exact r
        · cases h
      · cases h
    · rename_i fs hu
      split at h
      · rename_i k1 hk1
        split at h
        · rename_i hc
          simp only [Option.some.injEq] at h
          subst h
          have hl2 : vs.length = P.cellsOf t := by rw [hlen.1, hc]
          obtain ⟨r1, r2⟩ := lits_fields ih fs.toList 0 k1 vs ls hk1 (by simpa using hl)
          unfold Program.keyLits
          simp_all
        · cases h
      · cases h
    · cases h

theorem str_data_eq (a b : ByteArray) : (a == b) = true ↔ a.data.toList = b.data.toList := by
  rw [beq_toListBytes, beq_iff_eq, ByteArray.toList_eq, ByteArray.toList_eq]

theorem eqCells_lits {σ w} : ∀ {ks : List FK} {xs ys : List V} {vx vy : List Value} {r : Bool}, Reps σ w xs vx → Reps σ w ys vy → eqCells ks xs ys = some r →
    ∃ la lb, fkLits ks vx = some la ∧ fkLits ks vy = some lb ∧ (r = true ↔ la = lb) := by
  intro ks
  induction ks with
  | nil =>
    intro xs ys vx vy r hx hy he
    cases xs <;> cases ys <;> simp [eqCells] at he
    cases hx.nil_left
    cases hy.nil_left
    exact ⟨[], [], rfl, rfl, by simp [he]⟩
  | cons k ks ih =>
    intro xs ys vx vy r hx hy he
    unfold eqCells at he
    split at he
    · simp_all
    · rename_i ks' a xs b ys h1
      cases h1
      obtain ⟨v1, vx', rfl, p1, p2⟩ := hx.cons_left
      obtain ⟨v2, vy', rfl, q1, q2⟩ := hy.cons_left
      cases p1 with
      | lit _ _ =>
      cases q1 with
      | lit _ _ =>
      split at he
      · rename_i r' hr
        obtain ⟨la, lb, e1, e2, e3⟩ := ih p2 q2 hr
        simp only [Option.some.injEq] at he
        subst he
        refine ⟨.bool a :: la, .bool b :: lb, by simp [fkLits, fkLit, e1], by simp [fkLits, fkLit, e2], ?_⟩
        simp [e3]
      · cases he
    · rename_i k' ks' k1 a xs k2 b ys h1
      cases h1
      obtain ⟨v1, vx', rfl, p1, p2⟩ := hx.cons_left
      obtain ⟨v2, vy', rfl, q1, q2⟩ := hy.cons_left
      split at he
      · rename_i hk
        obtain ⟨rfl, rfl⟩ := hk
        cases p1 with
        | lit l1 _ =>
        cases q1 with
        | lit l2 _ =>
        split at he
        · rename_i r' hr
          obtain ⟨la, lb, e1, e2, e3⟩ := ih p2 q2 hr
          simp only [Option.some.injEq] at he
          subst he
          have w1 : (Lit.int k2 a).wf = true := by simpa [leaf] using l1
          have w2 : (Lit.int k2 b).wf = true := by simpa [leaf] using l2
          refine ⟨.int k2 a :: la, .int k2 b :: lb, by simp [fkLits, fkLit, e1, w1], by simp [fkLits, fkLit, e2, w2], ?_⟩
          simp [e3]
        · cases he
      · cases he
    · rename_i ks' a xs b ys h1
      cases h1
      obtain ⟨v1, vx', rfl, p1, p2⟩ := hx.cons_left
      obtain ⟨v2, vy', rfl, q1, q2⟩ := hy.cons_left
      cases p1 with
      | lit l1 _ =>
      cases q1 with
      | lit l2 _ =>
      split at he
      · rename_i r' hr
        obtain ⟨la, lb, e1, e2, e3⟩ := ih p2 q2 hr
        simp only [Option.some.injEq] at he
        subst he
        have w1 : a.size ≤ maxLen := by simpa [leaf] using l1
        have w2 : b.size ≤ maxLen := by simpa [leaf] using l2
        refine ⟨.string a.data.toList :: la, .string b.data.toList :: lb, by simp [fkLits, fkLit, e1, w1], by simp [fkLits, fkLit, e2, w2], ?_⟩
        rw [Bool.and_eq_true, str_data_eq, e3]
        simp
      · cases he
    · cases he

theorem structEq_ok {E : Env} {P : Program} {σ w} (hE : EnvOK E) (hP : E.P = P) {t : TypeId} {ks : List FK} {xs ys : List V} {vx vy : List Value} {r : Bool} (hf : E.flat t = some ks) (hx : Reps σ w xs vx) (hy : Reps σ w ys vy)
    (he : eqCells ks xs ys = some r) : (Op.equalIn 10000 t (.agg vx.toArray) (.agg vy.toArray)).run P w = .ok r w ∧ P.eqGuardType P.depth t = false := by
  have hfl := hE.flat t ks hf
  rw [hP] at hfl
  obtain ⟨la, lb, h1, h2, h3⟩ := eqCells_lits hx hy he
  have hrow : (∃ fs, P.underlying t = some (.struct fs)) ∨ ∃ n e, P.underlying t = some (.array n e) := by
    unfold flatOf at hfl
    split at hfl
    · simp_all
    · simp_all
    · cases hfl
  have hk : P.keyTypeAt 20 t = true ∧ P.eqGuardType P.depth t = false ∧ fkOf P 20 t = some ks := by
    unfold flatOf at hfl
    grind
  obtain ⟨k1, k2, k3⟩ := hk
  have l1 := lits_ok 20 t ks vx la k3 h1
  have l2 := lits_ok 20 t ks vy lb k3 h2
  have hcells : P.cellsOf t = ks.length := by
    rcases hrow with ⟨fs, hu⟩ | ⟨n, e, hu⟩ <;> unfold fkOf at k3 <;> rw [hu] at k3 <;> simp only [] at k3
    · grind
    · split at k3
      · split at k3
        · rename_i hc; simp only [Option.some.injEq] at k3; rw [← k3, hc.2]; simp
        · cases k3
      · cases k3
  have f1 : (Value.agg vx.toArray).formed P t = true := by
    rcases hrow with ⟨fs, hu⟩ | ⟨n, e, hu⟩ <;> simp [Value.formed, hu, hcells, (fkLits_len h1).1]
  have f2 : (Value.agg vy.toArray).formed P t = true := by
    rcases hrow with ⟨fs, hu⟩ | ⟨n, e, hu⟩ <;> simp [Value.formed, hu, hcells, (fkLits_len h2).1]
  obtain ⟨r', hr', hiff⟩ := run_equalIn_deep (P := P) 9980 20 t k1 w 20 20 (.agg vx.toArray) (.agg vy.toArray) la lb f1 f2 (by simpa [Value.cells] using l1) (by simpa [Value.cells] using l2)
  grind

end Go.Proofs.YtpikcdlhgiooaaaGreat.Le

/-
  An evaluator for the model's code over pure values: one operation is sound.
-/
namespace Go.Proofs.YtpikcdlhgiooaaaGreat.Le
set_option linter.unusedVariables false
open Go.RowKit (Below)

theorem un_ok {P : Program} {σ w} {op : UnOp} {x r : V} {v : Value} (hx : Reps σ w [x] [v]) (h : unD op x = some r) : ∃ u, (Op.unary op v).run P w = .ok u w ∧ Reps σ w [r] [u] := by
  unfold unD at h
  split at h
  · simp only [Option.some.injEq] at h
    subst h
    cases hx with
    | lit hl _ => exact ⟨_, by simp [Op.unary, Op.intArith], .lit (show (Lit.int _ _).wf = true from wf_wrap _ _) .nil⟩
  · simp only [Option.some.injEq] at h
    subst h
    cases hx with
    | lit hl _ => exact ⟨_, by simp [Op.unary, Op.intBits, bits], .lit (show (Lit.int _ _).wf = true from wf_bits _ _ _ _) .nil⟩
  · simp only [Option.some.injEq] at h
    subst h
    cases hx with
    | lit hl _ => exact ⟨_, by simp [Op.unary], .lit rfl .nil⟩
  · cases h

theorem ptrT_ok {E : Env} {P : Program} (hP : E.P = P) {t : TypeId} (h : ptrT E t = true) : P.underlying t = some (.pointer (P.pointee t)) := by
  unfold ptrT at h
  rw [hP] at h
  split at h
  · rename_i e he
    rw [he, Program.pointee, he]
  · cases h

theorem bin_ok {E : Env} {P : Program} {σ w} (hE : EnvOK E) (hP : E.P = P) {op : BinOp} {t : TypeId} {x y r : V} {vx vy : Value} (ox oy : Operand) (hx : Reps σ w [x] [vx]) (hy : Reps σ w [y] [vy]) (h : binD E op t x y = some r) :
    ∃ u, (eqGuard op t ox oy vx vy).run P w = .ok () w ∧ (binOp op t vx vy).run P w = .ok u w ∧ Reps σ w [r] [u] := by
  unfold binD at h
  split at h
  · rename_i k a j b
    cases hx with
    | lit l1 _ =>
    cases hy with
    | lit l2 _ =>
    cases hs : shiftOp .shl k a b with
    | none => simp [hs] at h
    | some q =>
      simp only [hs, Option.map_some, Option.some.injEq] at h
      subst h
      obtain ⟨h1, h2⟩ := shift_ok (P := P) (w := w) (t := t) (j := j) l1 (.inl rfl) hs
      exact ⟨q, eqGuard_plain _ _ _ _ _ _ (by simp) (by simp), h1, .lit h2 .nil⟩
  · rename_i k a j b
    cases hx with
    | lit l1 _ =>
    cases hy with
    | lit l2 _ =>
    cases hs : shiftOp .shr k a b with
    | none => simp [hs] at h
    | some q =>
      simp only [hs, Option.map_some, Option.some.injEq] at h
      subst h
      obtain ⟨h1, h2⟩ := shift_ok (P := P) (w := w) (t := t) (j := j) l1 (.inr rfl) hs
      exact ⟨q, eqGuard_plain _ _ _ _ _ _ (by simp) (by simp), h1, .lit h2 .nil⟩
  · rename_i k a j b hn1 hn2
    split at h
    · rename_i hk
      subst hk
      cases hx with
      | lit l1 _ =>
      cases hy with
      | lit l2 _ =>
      cases hs : intOp op k a b with
      | none => simp [hs] at h
      | some q =>
        simp only [hs, Option.map_some, Option.some.injEq] at h
        subst h
        obtain ⟨h1, h2⟩ := int_ok (P := P) (w := w) (t := t) l1 ⟨hn1, hn2⟩ hs
        exact ⟨q, eqGuard_plain _ _ _ _ _ _ (by simp) (by simp), h1, .lit h2 .nil⟩
    · cases h
  · rename_i a b
    cases hx with
    | lit l1 _ =>
    cases hy with
    | lit l2 _ =>
    cases hs : strOp op a b with
    | none => simp [hs] at h
    | some q =>
      simp only [hs, Option.map_some, Option.some.injEq] at h
      subst h
      obtain ⟨h1, h2⟩ := str_ok (P := P) (w := w) (t := t) hs
      exact ⟨q, eqGuard_plain _ _ _ _ _ _ (by simp) (by simp), h1, .lit h2 .nil⟩
  · split at h
    · rename_i hb
      have hu : P.underlying t = some .bool := by rw [← hP]; exact hE.isBool t hb
      simp only [Option.some.injEq] at h
      subst h
      cases hx with
      | lit l1 _ =>
      cases hy with
      | lit l2 _ =>
      exact ⟨_, eqGuard_plain _ _ _ _ _ _ (by simp) (by simp), by simp [binOp, run_equal_bool w t _ _ hu], .lit rfl .nil⟩
    · cases h
  · split at h
    · rename_i hb
      have hu : P.underlying t = some .bool := by rw [← hP]; exact hE.isBool t hb
      simp only [Option.some.injEq] at h
      subst h
      cases hx with
      | lit l1 _ =>
      cases hy with
      | lit l2 _ =>
      exact ⟨_, eqGuard_plain _ _ _ _ _ _ (by simp) (by simp), by simp [binOp, run_equal_bool w t _ _ hu], .lit rfl .nil⟩
    · cases h
  · rename_i xs ys
    split at h
    · rename_i ks hf
      cases hc : eqCells ks xs ys with
      | none => simp [hc] at h
      | some q =>
        simp only [hc, Option.map_some, Option.some.injEq] at h
        subst h
        cases hx with
        | agg p1 _ _ =>
        cases hy with
        | agg q1 _ _ =>
        obtain ⟨h1, h2⟩ := structEq_ok hE hP hf p1 q1 hc
        exact ⟨.bool q, run_eqGuard_agg w _ _ _ _ _ _ h2, by rw [run_eql_struct, h1]; rfl, .lit rfl .nil⟩
    · cases h
  · rename_i xs ys
    split at h
    · rename_i ks hf
      cases hc : eqCells ks xs ys with
      | none => simp [hc] at h
      | some q =>
        simp only [hc, Option.map_some, Option.some.injEq] at h
        subst h
        cases hx with
        | agg p1 _ _ =>
        cases hy with
        | agg q1 _ _ =>
        obtain ⟨h1, h2⟩ := structEq_ok hE hP hf p1 q1 hc
        exact ⟨.bool (!q), run_eqGuard_agg w _ _ _ _ _ _ h2, by rw [run_neq_struct, h1]; rfl, .lit rfl .nil⟩
    · cases h
  · split at h
    · rename_i hb
      have hu := ptrT_ok hP hb
      simp only [Option.some.injEq] at h
      subst h
      cases hx with
      | lit l1 _ =>
      cases hy with
      | lit l2 _ =>
      exact ⟨_, eqGuard_plain _ _ _ _ _ _ (by simp) (by simp), run_eql_pointer_nil w t none hu, .lit rfl .nil⟩
    · cases h
  · split at h
    · rename_i hb
      have hu := ptrT_ok hP hb
      simp only [Option.some.injEq] at h
      subst h
      cases hx with
      | lit l1 _ =>
      cases hy with
      | lit l2 _ =>
      exact ⟨_, eqGuard_plain _ _ _ _ _ _ (by simp) (by simp), run_neq_pointer_nil w t none hu, .lit rfl .nil⟩
    · cases h
  · split at h
    · rename_i hb
      have hu := ptrT_ok hP hb
      simp only [Option.some.injEq] at h
      subst h
      cases hx with
      | ptr g _ _ _ hv _ =>
      subst hv
      cases hy with
      | lit l2 _ =>
      exact ⟨_, eqGuard_plain _ _ _ _ _ _ (by simp) (by simp), run_eql_pointer_nil w t (some _) hu, .lit rfl .nil⟩
    · cases h
  · split at h
    · rename_i hb
      have hu := ptrT_ok hP hb
      simp only [Option.some.injEq] at h
      subst h
      cases hx with
      | ptr g _ _ _ hv _ =>
      subst hv
      cases hy with
      | lit l2 _ =>
      exact ⟨_, eqGuard_plain _ _ _ _ _ _ (by simp) (by simp), run_neq_pointer_nil w t (some _) hu, .lit rfl .nil⟩
    · cases h
  · cases h

/-! ### conversions -/

theorem bytes_reps {σ w} : ∀ {xs : List V} {us : List Value} {bs : List UInt8}, Reps σ w xs us → bytesOf xs = some bs → ∃ ns : List Int, us = ns.map (Value.int .u8) ∧ bs = ns.map fun n => UInt8.ofNat n.toNat
  | [], us, bs, h, hb => by
    cases h.nil_left
    simp only [bytesOf, Option.some.injEq] at hb
    simp_all
  | x :: xs, us, bs, h, hb => by
    obtain ⟨v, us', rfl, h1, h2⟩ := h.cons_left
    simp only [bytesOf] at hb
    split at hb
    · rename_i b bs' hbx hbs
      simp only [Option.some.injEq] at hb
      subst hb
      obtain ⟨ns, e1, e2⟩ := bytes_reps h2 hbs
      unfold byteOf at hbx
      split at hbx
      · rename_i n
        simp only [Option.some.injEq] at hbx
        subst hbx
        cases h1 with
        | lit _ _ => exact ⟨n :: ns, by simp [e1], by simp [e2]⟩
      · cases hbx
    · cases hb

theorem foldl_push (ns : List Int) (s : ByteArray) : (ns.foldl (fun r n => r.push (UInt8.ofNat n.toNat)) s) = ⟨s.data ++ (ns.map fun n => UInt8.ofNat n.toNat).toArray⟩ := by
  induction ns generalizing s with
  | nil => cases s; simp
  | cons n ns ih =>
    simp_all

theorem leaf_cells {v : Value} (h : leaf v = true) : v.cells = #[v] ∧ v.oneCell' = true := by
  unfold leaf at h
  split at h <;> first | exact ⟨rfl, rfl⟩ | cases h

/-- A row of scalars. -/
theorem lits_cells {σ : Sg} {w : World} : ∀ {cs : List V} {ws : List Value}, Reps σ w cs ws → cs.all isLitV = true → (∀ u ∈ ws, u.cells = #[u] ∧ u.oneCell' = true) ∧ flat ws = ws ∧ ∀ x ∈ cs, fzV x = true := by
  intro cs
  induction cs with
  | nil => intro ws h _; cases h.nil_left; exact ⟨by simp, rfl, by simp⟩
  | cons c cs ih =>
    intro ws h hl
    obtain ⟨v, vs, rfl, h1, h2⟩ := h.cons_left
    simp only [List.all_cons, Bool.and_eq_true] at hl
    obtain ⟨i1, i2, i3⟩ := ih h2 hl.2
    cases h1 with
    | lit hl' _ =>
      obtain ⟨k1, k2⟩ := leaf_cells hl'
      refine ⟨fun u hu => ?_, ?_, fun x hx => ?_⟩
      · grind
      · rw [flat_cons, k1, i2]; rfl
      · rcases List.mem_cons.1 hx with rfl | hx
        · rfl
        · exact i3 x hx
    | _ => simp [isLitV] at hl

theorem sliceA_ok {E B w0 σ H w} {P : Program} (hE : EnvOK E) (hP : E.P = P) (h : Inv B w0 σ H w) {t e : TypeId} {n sz by' : Nat} {z0 : Option V} (hti : E.ti t = some ⟨.array n e, sz, by', z0⟩) {x r : V} {v : Value} {lo hi mx : Option V} {lo' hi' mx' : Option Value} {H' : Heap} (hx : Reps σ w [x] [v])
    (hlo : OptRep σ w lo lo') (hhi : OptRep σ w hi hi') (hmx : OptRep σ w mx mx') (hs : sliceA E H n e x lo hi mx = some (r, H')) :
    ∃ u σ', (Instr.sliceAt t v lo' hi' mx').run P w = .ok u w ∧ Inv B w0 σ' H' w ∧ Ext σ w σ' w ∧ Reps σ' w [r] [u] := by
  unfold sliceA at hs
  split at hs
  · rename_i id i off tot m' hm'
    cases hmx
    obtain ⟨bd, _, hmn⟩ := bounds_ok (P := P) (w := w) (Nat.le_refl n) false hlo hhi hm' (l := 0) rfl
    split at hs
    · rename_i b hb
      obtain ⟨b1, b2, b3⟩ := boxAt_some hb
      split at hs
      · rename_i cs hrow hxs
        split at hs
        · rename_i hc
          obtain ⟨rfl, rfl, rfl, hmax, hsz, hlit⟩ := hc
          simp only [Option.some.injEq, Prod.mk.injEq] at hs
          obtain ⟨rfl, rfl⟩ := hs
          obtain ⟨L, us, m⟩ := h.meet b1 b2
          cases hx with
          | ptr g k1 k2 k3 k4 k5 =>
            rename_i L'
            have hL : L' = L := by
              have := m.box
              rw [k1] at this
              cases this
              rfl
            subst hL
            obtain ⟨n0, c0, hv⟩ := k3 (m.tot.trans b3)
            have hrep := m.reps
            rw [hxs] at hrep
            obtain ⟨ws, hus, hcs⟩ : ∃ ws : List Value, us = [.agg ws.toArray] ∧ Reps σ w cs ws := by
              cases hrep with
              | agg q1 q2 q3 => cases q3; exact ⟨_, rfl, q1⟩
            obtain ⟨c1, c2, c3⟩ := lits_cells hcs hlit
            have hlen : ws.length = cs.length := hcs.length.symm
            have hesz : L'.esz = cs.length := by
              have := m.sizes (.agg ws.toArray) (by rw [hus]; simp)
              simp only [Value.cells, List.size_toArray] at this
              omega
            have hflat : flat us = ws := by rw [hus, single_flat]; rfl
            obtain ⟨inf, d, hi', hd, q1, q2, q3, q4⟩ := tiOf_some (hE.ti _ _ hti)
            have hd' : P.underlying t = some (.array cs.length e) := by
              rw [hP] at hd
              rw [hd]
              cases d <;> simp [tyOf] at q1
              rw [q1.1, q1.2]
            obtain ⟨ei, hei, hez⟩ : ∃ ei, E.ti e = some ei ∧ ei.size = 1 := by
              unfold Env.size at hsz
              simp_all
            obtain ⟨infe, de, hie, hde, e1, e2, e3, e4⟩ := tiOf_some (hE.ti _ _ hei)
            rw [hP] at hie
            obtain ⟨hI, hEx⟩ := h.freeze [id]
            have htk := (hcs.take m').ext hEx
            obtain ⟨c1', c2', c3'⟩ := lits_cells htk (List.all_eq_true.2 fun x hx => List.all_eq_true.1 hlit x (List.mem_of_mem_take hx))
            have hml : (cs.take m').length = m' := by rw [List.length_take]; omega
            refine ⟨.slice (some ⟨g, 0, none⟩) (cs.take m').length cs.length, _, ?_, hI, hEx, ?_⟩
            · rw [k4, hml]
              simp [Instr.sliceAt, Instr.sureAddr, bd, run_underlying hd', sizeOf, typeInfo, hie, Addr.add_mid]
            · refine .sl g 0 cs.length 1 htk c3' (fun u hu => by rw [(c1' u hu).1]; rfl) (fun u hu => by simp_all) (by omega) hmax ?_ .nil
              intro j u hu
              rw [c2', List.getElem?_take] at hu
              split at hu
              rotate_left
              · cases hu
              have hj : j < cs.length := by rw [← hlen]; exact (List.getElem?_eq_some_iff.1 hu).1
              refine ⟨.inr ⟨id, b, L', by simp, b1, b2, m.box, by rw [hv]; rfl, ?_⟩, ?_⟩
              · grind
              · rw [Nat.zero_add]; exact m.cell (g := g) (by rw [hv]; rfl) j u (by rw [hflat]; exact hu)
        · cases hs
      · cases hs
    · cases hs
  · cases hs

theorem arrA_ok {E σ w} {P : Program} (hE : EnvOK E) (hP : E.P = P) {t : TypeId} {x r : V} {v : Value} (hx : Reps σ w [x] [v]) (hs : arrA E t x = some r) : ∃ u, (Instr.arrayAt t v).run P w = .ok u w ∧ Reps σ w [r] [u] := by
  unfold arrA at hs
  split at hs
  · rename_i n e sz0 by' z0 sz xs hti
    split at hs
    · rename_i hc
      obtain ⟨hsz, rfl, hn, hle, hlit⟩ := hc
      simp only [Option.some.injEq] at hs
      subst hs
      obtain ⟨inf, d, hi', hd, q1, q2, q3, q4⟩ := tiOf_some (hE.ti _ _ hti)
      have hd' : P.underlying t = some (.array n e) := by
        rw [hP] at hd
        rw [hd]
        cases d <;> simp [tyOf] at q1
        rw [q1.1, q1.2]
      cases hx with
      | slnil _ => simp at hle; omega
      | slemp a _ => simp at hle; omega
      | sl b o c e' k0 k1 k2 k3 k4 k5 k6 k7 =>
        rename_i us
        have htk := k0.take n
        obtain ⟨c1, c2, c3⟩ := lits_cells htk hlit
        have hlen : (us.take n).length = n := by
          have := k0.length
          rw [List.length_take]; omega
        refine ⟨.pointer (some ⟨b, o, none⟩), ?_, ?_⟩
        · simp [Instr.arrayAt, run_underlying hd', Nat.not_lt.2 hle]
        · have key : Reps σ w [.ept n [.agg (xs.take n)] 0 0] [.pointer (some ⟨b, o + 0 * n + 0, none⟩)] := by
            refine .ept (us := [.agg (us.take n).toArray]) b o n 0 0 (.agg htk (fun u hu => (c1 u hu).2) .nil) ?_ ?_ ?_ ?_ .nil
            · intro y hy
              simp only [List.mem_singleton] at hy
              subst hy
              have : noRefs (xs.take n) = true := fzV_noRefs c3
              simp [fzV, okV, noRef, this]
            · intro u hu
              simp only [List.mem_singleton] at hu
              subst hu
              simpa [Value.cells] using hlen
            · intro u hu
              rw [single_flat] at hu
              exact (c1 u (by simpa [Value.cells] using hu)).2
            · intro j u hu
              rw [single_flat] at hu
              have hu' : (us.take n)[j]? = some u := by simpa [Value.cells] using hu
              rw [← c2, flat_take k2, List.getElem?_take] at hu'
              split at hu'
              · exact k6 j u hu'
              · cases hu'
          simpa using key
    · cases hs
  · cases hs

theorem convS_ok {E B w0 σ H w} {P : Program} (hE : EnvOK E) (hP : E.P = P) (h : Inv B w0 σ H w) {k : Nat} (hk0 : freeB H k = true) {src dst : TypeId} {x r : V} {v : Value} {H' : Heap} (hx : Reps σ w [x] [v]) (hsrc : E.isStr src = true) (hdst : E.isBytes dst = true) (hc : convS E k H dst x = some (r, H')) :
    ∃ u w' σ', (convert src dst v).run P w = .ok u w' ∧ Inv B w0 σ' H' w' ∧ Ext σ w σ' w' ∧ Reps σ' w' [r] [u] := by
  unfold convS at hc
  split at hc
  · rename_i st e sz by' z0 hti
    split at hc
    · simp only [Option.some.injEq, Prod.mk.injEq] at hc
      obtain ⟨rfl, rfl⟩ := hc
      cases hx with
      | lit hl _ =>
        have hlen : st.size ≤ maxLen := by simpa [leaf] using hl
        obtain ⟨e', h1, h2⟩ := hE.isBytes _ hdst
        have h0 := hE.isStr _ hsrc
        rw [hP] at h0 h1 h2
        obtain ⟨inf, d, hi, hd, q1, q2, q3, q4⟩ := tiOf_some (hE.ti _ _ hti)
        have hee : e' = e := by
          rw [hP] at hd
          rw [h1] at hd
          cases hd
          have := q1
          simp only [tyOf, Ty.slice.injEq] at this
          exact this.symm
        subst hee
        have hrun := run_bytes_of_string (P := P) w src dst e' st h0 h1 h2
        have hus : ∀ u ∈ (st.data.toList.map fun b => Value.int .u8 b.toNat), u.cells.size = 1 ∧ u.oneCell' = true := by
          intro u hu
          obtain ⟨b, _, rfl⟩ := List.mem_map.1 hu
          exact ⟨rfl, rfl⟩
        have hflat : flat (st.data.toList.map fun b => Value.int .u8 b.toNat) = st.data.toList.map fun b => Value.int .u8 b.toNat := by
          have : ∀ l : List Value, (∀ u ∈ l, u.cells = #[u]) → flat l = l := by
            intro l
            induction l with
            | nil => intro _; rfl
            | cons u l ih => intro hh; rw [flat_cons, hh u (by simp), ih (fun v hv => hh v (by simp [hv]))]; rfl
          refine this _ (fun u hu => ?_)
          obtain ⟨b, _, rfl⟩ := List.mem_map.1 hu
          rfl
        have hsz : st.data.toList.length = st.size := Array.length_toList
        have hge := grownCap_ge w st.size 0 e'
        have hbs : (bytesRow st (grownCap w st.size 0 e')).size = grownCap w st.size 0 e' := by
          simp only [bytesRow, Array.size_append, Array.size_map, Array.size_replicate]
          have : st.data.size = st.size := rfl
          omega
        have hown : ownR (w.drew.alloc (.cells (bytesRow st (grownCap w st.size 0 e')) e' ((bytesRow st (grownCap w st.size 0 e')).size, (bytesRow st (grownCap w st.size 0 e')).size + 1))) B e' 1 (.slice (some ⟨w.heap.size, 0, none⟩) st.size (grownCap w st.size 0 e')) (bytesV st).length (flat (st.data.toList.map fun b => Value.int .u8 b.toNat)) := by
          have hbl : (bytesV st).length = st.size := by simp only [bytesV, List.length_map]; exact hsz
          rw [hbl, hflat]
          refine ⟨by simp_all, .inr ⟨w.heap.size, _, _, _, rfl, h.size, heap_alloc_new w.drew _, .inr (Nat.le_refl _), hge, grownCap_le_maxLen w st.size 0 e' hlen, by rw [hbs, Nat.mul_one], ?_⟩⟩
          rw [Nat.mul_one]
          simp only [bytesRow, Array.toList_append, Array.toList_map]
          simp_all
        have hgr : w.grownBy (w.drew.alloc (.cells (bytesRow st (grownCap w st.size 0 e')) e' ((bytesRow st (grownCap w st.size 0 e')).size, (bytesRow st (grownCap w st.size 0 e')).size + 1))) none :=
          ⟨rfl, rfl, rfl, by simp, fun k hk _ => heap_alloc_old w.drew _ hk⟩
        have hreps : ∀ l : List UInt8, Reps σ w (l.map fun c => V.lit (.int .u8 c.toNat)) (l.map fun b => Value.int .u8 b.toNat) := by
          intro l
          induction l with
          | nil => exact .nil
          | cons b l ih =>
            refine .lit ?_ ih
            have := b.toNat_lt
            simp [leaf, Lit.wf, IntKind.min, IntKind.max, IntKind.signed, IntKind.bits]
            omega
        obtain ⟨σ', g1, g2, g3⟩ := push_ok (e := e') (esz := 1) h hk0 hgr (xs := bytesV st) (hreps st.data.toList)
          (fun x hx => by obtain ⟨b, _, rfl⟩ := List.mem_map.1 hx; rfl) (fun u hu => (hus u hu).1) (fun u hu => by grind) hown (by simp [Value.ownBlock]) false (by simp)
        have hbl : (bytesV st).length = st.size := by simp only [bytesV, List.length_map]; exact hsz
        grind
    · cases hc
  · cases hc

theorem conv_ok {E B w0 σ H w} {P : Program} (hE : EnvOK E) (hP : E.P = P) (h : Inv B w0 σ H w) {src dst : TypeId} {x r : V} {v : Value} {H' : Heap} (hx : Reps σ w [x] [v]) (hc : convD E H src dst x = some (r, H')) :
    H' = H ∧ ∃ u, (convert src dst v).run P w = .ok u w ∧ Reps σ w [r] [u] := by
  unfold convD at hc
  split at hc
  · split at hc
    · rename_i k hk
      split at hc
      · rename_i hsrc
        simp only [Option.some.injEq, Prod.mk.injEq] at hc
        obtain ⟨rfl, rfl⟩ := hc
        have hd : P.underlying dst = some (.int k) := by rw [← hP]; exact hE.kind dst k hk
        cases hti : E.ti src with
        | none => simp [hti] at hsrc
        | some i =>
          obtain ⟨inf, d, hi, hds, _⟩ := tiOf_some (hE.ti _ _ hti)
          rw [hP] at hds
          cases hx with
          | lit l _ =>
            refine ⟨rfl, _, ?_, .lit (show (Lit.int _ _).wf = true from wf_wrap _ _) .nil⟩
            simp [convert, run_underlying hds, run_underlying hd, Conv.intToInt]
      · cases hc
    · cases hc
  · split at hc
    · rename_i hst
      simp only [Bool.and_eq_true] at hst
      simp only [Option.some.injEq, Prod.mk.injEq] at hc
      obtain ⟨rfl, rfl⟩ := hc
      have h1 : P.underlying src = some .string := by rw [← hP]; exact hE.isStr _ hst.1
      have h2 : P.underlying dst = some .string := by rw [← hP]; exact hE.isStr _ hst.2
      cases hx with
      | lit l _ =>
        refine ⟨rfl, _, ?_, .lit l .nil⟩
        simp [convert, run_underlying h1, run_underlying h2]
    · cases hc
  · split at hc
    · rename_i hn1 hn2 hst
      simp only [Bool.and_eq_true] at hst
      obtain ⟨⟨s1, s2⟩, s3⟩ := hst
      split at hc
      · rename_i xs hxs
        split at hc
        · rename_i bs hbs
          split at hc
          · rename_i hlen
            simp only [Option.some.injEq, Prod.mk.injEq] at hc
            obtain ⟨rfl, rfl⟩ := hc
            obtain ⟨us, S⟩ := src_ok h hx hxs s3
            obtain ⟨ns, e1, e2⟩ := bytes_reps S.reps hbs
            have hd : P.underlying dst = some .string := by rw [← hP]; exact hE.isStr _ s1
            obtain ⟨e, hs, he⟩ := hE.isBytes _ s2
            rw [hP] at hs he
            refine ⟨rfl, .string ⟨bs.toArray⟩, ?_, .lit (by simpa [leaf, ByteArray.size] using hlen) .nil⟩
            rcases S.val with ⟨hv, hy, hu⟩ | ⟨b, o, c, hv, hc, hcell⟩
            · subst hy
              simp only [bytesOf, Option.some.injEq] at hbs
              subst hbs
              rcases hv with rfl | ⟨a, k, rfl⟩
              · rw [run_convert_bytes_string w src dst e _ _ _ hs he hd]
                rfl
              · rw [run_convert_bytes_string w src dst e _ _ _ hs he hd]
                have hload := run_loadCells_list (P := P) w a [] (fun j v hj => by simp at hj)
                rw [run_bytesToString (P := P) w a 0 k [] (by simpa using hload)]
                rfl
            · subst hv
              rw [run_convert_bytes_string w src dst e _ _ _ hs he hd]
              have hfl : flat us = us := by
                rw [e1]
                clear e1 e2 hcell
                induction ns with
                | nil => rfl
                | cons n ns ih => simp [flat, Value.cells] at ih ⊢; exact ih
              have hll : xs.length = us.length := S.reps.length
              have hload := run_loadCells_list (P := P) w ⟨b, o, none⟩ us (fun j v hj => by rw [Addr.add_mid]; exact hcell j v (by rw [hfl]; exact hj))
              rw [run_bytesToString (P := P) w ⟨b, o, none⟩ xs.length c ns (by rw [hll, hload, e1])]
              rw [foldl_push, e2]
              simp
          · cases hc
        · cases hc
      · cases hc
    · cases hc

theorem mm_ok {P : Program} {σ w} (isMax : Bool) : ∀ {xs : List V} {vs : List Value} {k : IntKind} {a : Int} {r : V}, Reps σ w xs vs → leaf (.int k a) = true → mm isMax k a xs = some r →
    ∃ u, (vs.foldlM (if isMax then Builtin.max2 else Builtin.min2) (.int k a)).run P w = .ok u w ∧ Reps σ w [r] [u]
  | [], vs, k, a, r, h, hl, hm => by
    cases h.nil_left
    simp only [mm, Option.some.injEq] at hm
    subst hm
    exact ⟨_, rfl, .lit hl .nil⟩
  | x :: xs, vs, k, a, r, h, hl, hm => by
    obtain ⟨v, vs', rfl, h1, h2⟩ := h.cons_left
    unfold mm at hm
    split at hm
    · rename_i h3; cases h3
    · rename_i j b rest h3
      cases h3
      split at hm
      · rename_i hk
        subst hk
        cases h1 with
        | lit l1 _ =>
        cases isMax
        · simp only [Bool.false_eq_true, if_false] at hm ⊢
          obtain ⟨u, hu, hr⟩ := mm_ok (P := P) false h2 (by split <;> assumption) hm
          simp only [Bool.false_eq_true, if_false] at hu
          exact ⟨u, by rw [List.foldlM_cons]; simp only [Builtin.min2, Sem.run_bind, Sem.run_pure, Result.andThen_ok]; exact hu, hr⟩
        · simp only [if_true] at hm ⊢
          obtain ⟨u, hu, hr⟩ := mm_ok (P := P) true h2 (by split <;> assumption) hm
          simp only [if_true] at hu
          exact ⟨u, by rw [List.foldlM_cons]; simp only [Builtin.max2, Sem.run_bind, Sem.run_pure, Result.andThen_ok]; exact hu, hr⟩
      · cases hm
    · cases hm

end Go.Proofs.YtpikcdlhgiooaaaGreat.Le

/-
  An evaluator for the model's code over pure values: maps that change.
-/
namespace Go.Proofs.YtpikcdlhgiooaaaGreat.Le
set_option linter.unusedVariables false
open Go.RowKit (Below)

def Sg.map (σ : Sg) (k g : Nat) : Sg := { σ with mp := fun i => if i = k then some g else σ.mp i }

theorem mapB_dead {b : Box} (h : mapB b = true) : b.live = false ∧ b.row = true := by
  simp [mapB] at h
  exact ⟨h.1, h.2.1⟩

theorem Inv.pushMap {B w0 σ H w w'} (h : Inv B w0 σ H w) {k : Nat} (hk : freeB H k = true) (t : TypeId) (hg : w.grownBy w' none) (hw : w'.heap[w.heap.size]? = some (.map #[] 0)) :
    Inv B w0 (σ.map k w.heap.size) (place H k (newMap t)) w' ∧ Ext σ w (σ.map k w.heap.size) w' := by
  have hfree : ∀ b, H[k]? = some b → b.live = false ∧ b.row = false := by
    intro b hb
    rcases freeB_iff hk with ⟨hn, _⟩ | ⟨b0, hb0, hl0⟩
    · rw [hn] at hb; cases hb
    · rw [hb0] at hb; cases hb; exact hl0
  have hnone : σ.mp k = none := by
    cases hm : σ.mp k with
    | none => rfl
    | some g =>
      exfalso
      obtain ⟨_, _, _, b, hb, hmb⟩ := h.maps.dom k g hm
      have := hfree b hb
      simp [mapB, this] at hmb
  obtain ⟨h', e0⟩ := h.grown hg
  have hsz : w.heap.size < w'.heap.size := (Array.getElem?_eq_some_iff.1 hw).1
  have e : Ext σ w (σ.map k w.heap.size) w' := by
    refine ⟨e0.box, e0.fz, fun id g hm => ?_⟩
    have : id ≠ k := fun hh => by simp_all
    simp [Sg.map, this, hm]
  have hne : ∀ (id : Nat) (b : Box), H[id]? = some b → (b.live = true ∨ b.row = true) → id ≠ k := by
    intro id b hb hl hid
    subst hid
    have := hfree b hb
    simp_all
  have hold : ∀ (id : Nat) (b : Box), (place H k (newMap t))[id]? = some b → b.live = true → H[id]? = some b := by
    intro id b hb hl
    rw [place_get hk] at hb
    split at hb
    · cases hb; simp [newMap] at hl
    · exact hb
  have hkeep : ∀ (id : Nat) (b : Box), H[id]? = some b → (b.live = true ∨ b.row = true) → (place H k (newMap t))[id]? = some b := by
    intro id b hb hl
    rw [place_get hk, if_neg (hne id b hb hl)]
    exact hb
  refine ⟨⟨h'.below, h'.size, fun id L hL => ?_, fun id b hb hl => ?_, fun id id' b1 b2 L1 L2 g h1 h2 l1 l2 => h.apart id id' b1 b2 L1 L2 g (hold _ _ h1 l1) (hold _ _ h2 l2) l1 l2, h'.cells,
    fun b c hc id bx L hb hl => h.floor b c hc id bx L (hold _ _ hb hl) hl, fun id b hb hl => h.low id b (hold _ _ hb hl) hl, h'.old, fun b hb => h'.kept b hb, ?_⟩, e⟩
  · obtain ⟨b1, c1, c2⟩ := h.dom id L hL
    exact ⟨b1, hkeep id b1 c1 c2, c2⟩
  · obtain ⟨L, hL, hok⟩ := h.boxes id b (hold _ _ hb hl) hl
    refine ⟨L, hL, hok.kept e hg ?_⟩
    cases hh : L.v.ownBlock with
    | none => exact .inl rfl
    | some g => exact .inr (by simp)
  · refine ⟨fun id b hb hm => ?_, fun id g hm => ?_, fun id id' g h1 h2 => ?_⟩
    · rw [place_get hk] at hb
      split at hb
      · rename_i hid
        subst hid
        cases hb
        exact ⟨w.heap.size, #[], 0, [], by simp [Sg.map], hw, .nil, by simp, by simp [newMap]⟩
      · rename_i hid
        obtain ⟨g, es, c, us, h1, h2, h3, h4⟩ := h.maps.ok id b hb hm
        exact ⟨g, es, c, us, by simp [Sg.map, hid, h1], (hg.block g (h.maps.dom id g h1).2.1 (by simp)).trans h2, h3.ext e, h4⟩
    · by_cases hid : id = k
      · subst hid
        simp only [Sg.map, if_true, Option.some.injEq] at hm
        subst hm
        exact ⟨h.size, hsz, fun hkp => Nat.lt_irrefl _ (h.kept _ hkp).1, newMap t, by rw [place_get hk, if_pos rfl], rfl⟩
      · simp only [Sg.map, hid, if_false] at hm
        obtain ⟨h1, h2, h3, b, h4, h5⟩ := h.maps.dom id g hm
        exact ⟨h1, by omega, h3, b, by rw [place_get hk, if_neg hid]; exact h4, h5⟩
    · have hlt : ∀ i, σ.mp i = some g → g < w.heap.size := fun i hi => (h.maps.dom i g hi).2.1
      by_cases h3 : id = k
      · by_cases h4 : id' = k
        · rw [h3, h4]
        · simp only [Sg.map, h3, h4, if_true, if_false, Option.some.injEq] at h1 h2
          have := hlt _ h2
          omega
      · by_cases h4 : id' = k
        · simp only [Sg.map, h3, h4, if_true, if_false, Option.some.injEq] at h1 h2
          have := hlt _ h1
          omega
        · simp only [Sg.map, h3, h4, if_false] at h1 h2
          exact h.maps.apart id id' g h1 h2

/-- A map's box is written. -/
theorem Inv.setMap {B w0 σ H w} (h : Inv B w0 σ H w) {id g : Nat} {b : Box} (hb : H[id]? = some b) (hmb : mapB b = true) (hmp : σ.mp id = some g) {es : Array MapEntry} {c : Nat} (hes : w.heap[g]? = some (.map es c))
    {es' : Array MapEntry} {c' : Nat} {xs : List V} (hr : Reps σ w xs (es'.toList.flatMap fun (e : MapEntry) => [e.key, e.val])) (hfz : ∀ x ∈ xs, fzV x = true) :
    Inv B w0 σ (H.set id { b with xs := xs }) (ChangeMaps.setBlock w g (.map es' c')) ∧ Ext σ w σ (ChangeMaps.setBlock w g (.map es' c')) := by
  have hg : w.grownBy (ChangeMaps.setBlock w g (.map es' c')) (some g) := ⟨rfl, rfl, rfl, by simp [ChangeMaps.setBlock], fun i _ hi => ChangeMaps.heap_setBlock_other hes _ (fun e => hi (by rw [e]))⟩
  have hnew := ChangeMaps.heap_setBlock_same hes (.map es' c')
  have hcell : ∀ b c, σ.fz b c → (ChangeMaps.setBlock w g (.map es' c')).cell? ⟨b, c, none⟩ = w.cell? ⟨b, c, none⟩ := by
    intro b1 c1 hc
    obtain ⟨u, hu⟩ := h.cells b1 c1 hc
    have hne : b1 ≠ g := by
      intro hh
      subst hh
      simp [World.cell?, hes] at hu
    exact World.cell?_of_block (hg.block b1 (cell_lt hu) (by simpa using hne))
  have e : Ext σ w σ (ChangeMaps.setBlock w g (.map es' c')) := by
    exact ⟨fun i L hL => ⟨L, hL, rfl, .inl rfl⟩, fun b1 c1 hc => ⟨hc, hcell b1 c1 hc⟩, Mapk.refl σ⟩
  have hlen : id < H.length := (List.getElem?_eq_some_iff.1 hb).1
  have hmb' : mapB { b with xs := xs } = true := hmb
  have hold : ∀ (i : Nat) (bx : Box), (H.set id { b with xs := xs })[i]? = some bx → bx.live = true → H[i]? = some bx := by
    intro i bx hbx hl
    by_cases hi : i = id
    · subst hi
      simp only [List.getElem?_set, if_true, hlen] at hbx
      cases hbx
      have := mapB_dead hmb
      simp_all
    · rw [List.getElem?_set_ne (fun e => hi e.symm)] at hbx
      exact hbx
  obtain ⟨d1, d2, d3, _⟩ := h.maps.dom id g hmp
  refine ⟨⟨h.below.grown hg h.size (fun k hk => by cases hk; exact d1), Nat.le_trans h.size hg.size, fun i L hL => ?_, fun i bx hbx hl => ?_,
    fun i j b1 b2 L1 L2 g' h1 h2 l1 l2 => h.apart i j b1 b2 L1 L2 g' (hold _ _ h1 l1) (hold _ _ h2 l2) l1 l2, fun b1 c1 hc => ?_,
    fun b1 c1 hc i bx L hbx hl => h.floor b1 c1 hc i bx L (hold _ _ hbx hl) hl, fun i bx hbx hl => h.low i bx (hold _ _ hbx hl) hl, h.old, fun b1 hb1 => ?_, ?_⟩, e⟩
  · obtain ⟨b1, c1, c2⟩ := h.dom i L hL
    by_cases hi : i = id
    · subst hi
      exact ⟨{ b with xs := xs }, by simp [hlen], .inr (mapB_dead hmb).2⟩
    · exact ⟨b1, by rw [List.getElem?_set_ne (fun e => hi e.symm)]; exact c1, c2⟩
  · obtain ⟨L, hL, hok⟩ := h.boxes i bx (hold _ _ hbx hl) hl
    refine ⟨L, hL, hok.kept e hg ?_⟩
    cases hh : L.v.ownBlock with
    | none => exact .inl rfl
    | some g' =>
      refine .inr fun hh' => ?_
      cases hh'
      exact hok.no_map hh hes
  · obtain ⟨u, hu⟩ := h.cells b1 c1 hc
    exact ⟨u, (hcell b1 c1 hc).trans hu⟩
  · obtain ⟨k1, k2, k3, k4⟩ := h.kept b1 hb1
    refine ⟨Nat.lt_of_lt_of_le k1 hg.size, (hg.block b1 k1 (fun hh => ?_)).trans k2, k3, k4⟩
    cases hh
    exact d3 hb1
  · refine ⟨fun i bx hbx hm => ?_, fun i g' hm => ?_, h.maps.apart⟩
    · by_cases hi : i = id
      · subst hi
        simp only [List.getElem?_set, if_true, hlen] at hbx
        cases hbx
        exact ⟨g, es', c', _, hmp, hnew, hr.ext e, rfl, hfz⟩
      · rw [List.getElem?_set_ne (fun e => hi e.symm)] at hbx
        obtain ⟨g', es0, c0, us, h1, h2, h3, h4⟩ := h.maps.ok i bx hbx hm
        have : g' ≠ g := fun hh => hi (h.maps.apart i id g (by rw [← hh]; exact h1) hmp)
        exact ⟨g', es0, c0, us, h1, (hg.block g' (h.maps.dom i g' h1).2.1 (by simpa using this)).trans h2, h3.ext e, h4⟩
    · obtain ⟨h1, h2, h3, bx, h4, h5⟩ := h.maps.dom i g' hm
      by_cases hi : i = id
      · subst hi
        exact ⟨h1, Nat.lt_of_lt_of_le h2 hg.size, h3, { b with xs := xs }, by simp [hlen], hmb'⟩
      · exact ⟨h1, Nat.lt_of_lt_of_le h2 hg.size, h3, bx, by rw [List.getElem?_set_ne (fun e => hi e.symm)]; exact h4, h5⟩

/-! ### keys -/

theorem Reps.lit_eq {σ : Sg} {w : World} {v u : Value} (h : Reps σ w [.lit v] [u]) : u = v := by cases h; rfl

theorem pair_reps {σ : Sg} {w : World} {e : MapEntry} {l : List MapEntry} {kvs : List V} (h : Reps σ w kvs ((e :: l).flatMap fun (e : MapEntry) => [e.key, e.val])) :
    ∃ x y r, kvs = x :: y :: r ∧ Reps σ w [x] [e.key] ∧ Reps σ w [y] [e.val] ∧ Reps σ w r (l.flatMap fun (e : MapEntry) => [e.key, e.val]) := by
  have h' : Reps σ w kvs (e.key :: e.val :: l.flatMap fun (e : MapEntry) => [e.key, e.val]) := h
  cases kvs with
  | nil => cases h'
  | cons x kvs =>
    obtain ⟨h1, h2⟩ := Reps.cons_iff.1 h'
    cases kvs with
    | nil => cases h2
    | cons y r =>
      obtain ⟨h3, h4⟩ := Reps.cons_iff.1 h2
      exact ⟨x, y, r, rfl, h1, h3, h4⟩

theorem pairs_app {l l' : List MapEntry} : ((l ++ l').flatMap fun (e : MapEntry) => [e.key, e.val]) = (l.flatMap fun (e : MapEntry) => [e.key, e.val]) ++ l'.flatMap fun (e : MapEntry) => [e.key, e.val] := List.flatMap_append

theorem Reps.two {σ : Sg} {w : World} {x y : V} {u v : Value} {r : List V} {us : List Value} (h1 : Reps σ w [x] [u]) (h2 : Reps σ w [y] [v]) (h3 : Reps σ w r us) : Reps σ w (x :: y :: r) (u :: v :: us) :=
  Reps.cons_iff.2 ⟨h1, Reps.cons_iff.2 ⟨h2, h3⟩⟩

theorem setV_ok {σ : Sg} {w : World} {kd : IntKind} {n : Int} {y : V} {u : Value} (hy : Reps σ w [y] [u]) (hl : leaf (.int kd n) = true) (bn : Nat) : ∀ (l : List MapEntry) (kvs kvs' : List V) (i : Nat), Reps σ w kvs (l.flatMap fun (e : MapEntry) => [e.key, e.val]) → setV kd n y kvs = some kvs' →
    (Instr.findNow (.int kd) (.int kd n) l i = some none ∧ Reps σ w kvs' ((l ++ [(⟨.int kd n, u, bn⟩ : MapEntry)]).flatMap fun (e : MapEntry) => [e.key, e.val])) ∨
    (∃ j v, Instr.findNow (.int kd) (.int kd n) l i = some (some (i + j, v)) ∧ (l[j]?).map (·.key) = some (.int kd n) ∧ Reps σ w kvs' ((l.modify j fun e => { e with key := .int kd n, val := u }).flatMap fun (e : MapEntry) => [e.key, e.val]))
  | [], kvs, kvs', i, h, hs => by
    cases h
    simp only [setV, Option.some.injEq] at hs
    subst hs
    exact .inl ⟨rfl, Reps.two (.lit hl .nil) hy .nil⟩
  | e :: l, kvs, kvs', i, h, hs => by
    obtain ⟨x, y0, r, rfl, h1, h2, h3⟩ := pair_reps h
    unfold setV at hs
    split at hs
    · rename_i heq
      cases heq
    · rename_i k a v r' heq
      obtain ⟨rfl, rfl, rfl⟩ : x = .lit (.int k a) ∧ y0 = v ∧ r = r' := by simpa using heq
      split at hs
      · rename_i hk
        subst hk
        have hkey : e.key = .int k a := h1.lit_eq
        split at hs
        · rename_i hna
          subst hna
          simp only [Option.some.injEq] at hs
          subst hs
          refine .inr ⟨0, e.val, by simp [Instr.findNow, hkey, Instr.sameNow], by simp [hkey], ?_⟩
          exact Reps.two (.lit hl .nil) hy h3
        · rename_i hna
          cases hq : setV k n y r with
          | none => simp [hq] at hs
          | some q =>
            simp only [hq, Option.map_some, Option.some.injEq] at hs
            subst hs
            have hfn : Instr.findNow (.int k) (.int k n) (e :: l) i = Instr.findNow (.int k) (.int k n) l (i + 1) := by simp [Instr.findNow, hkey, Instr.sameNow, beq_eq_false_iff_ne.2 hna]
            rcases setV_ok hy hl bn l r q (i + 1) h3 hq with ⟨g1, g2⟩ | ⟨j, v', g1, g2, g3⟩
            · refine .inl ⟨by rw [hfn]; exact g1, ?_⟩
              rw [List.cons_append, List.flatMap_cons]
              exact Reps.two h1 h2 g2
            · refine .inr ⟨j + 1, v', by rw [hfn, g1]; congr 3; omega, by simpa using g2, ?_⟩
              rw [List.modify_succ_cons, List.flatMap_cons]
              exact Reps.two h1 h2 g3
      · cases hs
    · cases hs

theorem delV_ok {σ : Sg} {w : World} {kd : IntKind} {n : Int} : ∀ (l : List MapEntry) (kvs kvs' : List V) (i : Nat), Reps σ w kvs (l.flatMap fun (e : MapEntry) => [e.key, e.val]) → delV kd n kvs = some kvs' →
    (Instr.findNow (.int kd) (.int kd n) l i = some none ∧ kvs' = kvs) ∨
    (∃ j v, Instr.findNow (.int kd) (.int kd n) l i = some (some (i + j, v)) ∧ Reps σ w kvs' ((l.eraseIdx j).flatMap fun (e : MapEntry) => [e.key, e.val]))
  | [], kvs, kvs', i, h, hs => by
    cases h
    simp only [delV, Option.some.injEq] at hs
    subst hs
    exact .inl ⟨rfl, rfl⟩
  | e :: l, kvs, kvs', i, h, hs => by
    obtain ⟨x, y0, r, rfl, h1, h2, h3⟩ := pair_reps h
    unfold delV at hs
    split at hs
    · rename_i heq
      cases heq
    · rename_i k a v r' heq
      obtain ⟨rfl, rfl, rfl⟩ : x = .lit (.int k a) ∧ y0 = v ∧ r = r' := by simpa using heq
      split at hs
      · rename_i hk
        subst hk
        have hkey : e.key = .int k a := h1.lit_eq
        split at hs
        · rename_i hna
          subst hna
          simp only [Option.some.injEq] at hs
          subst hs
          exact .inr ⟨0, e.val, by simp [Instr.findNow, hkey, Instr.sameNow], by simpa using h3⟩
        · rename_i hna
          cases hq : delV k n r with
          | none => simp [hq] at hs
          | some q =>
            simp only [hq, Option.map_some, Option.some.injEq] at hs
            subst hs
            have hfn : Instr.findNow (.int k) (.int k n) (e :: l) i = Instr.findNow (.int k) (.int k n) l (i + 1) := by simp [Instr.findNow, hkey, Instr.sameNow, beq_eq_false_iff_ne.2 hna]
            rcases delV_ok l r q (i + 1) h3 hq with ⟨g1, g2⟩ | ⟨j, v', g1, g3⟩
            · exact .inl ⟨by rw [hfn]; exact g1, by rw [g2]⟩
            · refine .inr ⟨j + 1, v', by rw [hfn, g1]; congr 3; omega, ?_⟩
              rw [List.eraseIdx_cons_succ, List.flatMap_cons]
              exact Reps.two h1 h2 g3
      · cases hs
    · cases hs

theorem setV_fz {kd : IntKind} {n : Int} {y : V} (hy : fzV y = true) : ∀ (kvs kvs' : List V), (∀ x ∈ kvs, fzV x = true) → setV kd n y kvs = some kvs' → ∀ x ∈ kvs', fzV x = true
  | kvs, kvs', h, hs => by
    unfold setV at hs
    split at hs
    · cases hs
      intro x hx
      simp only [List.mem_cons, List.not_mem_nil, or_false] at hx
      rcases hx with rfl | rfl
      · rfl
      · exact hy
    · rename_i k a v r
      split at hs
      · split at hs
        · cases hs
          intro x hx
          simp only [List.mem_cons] at hx h
          rcases hx with rfl | rfl | hx
          · rfl
          · exact hy
          · exact h x (.inr (.inr hx))
        · cases hq : setV kd n y r with
          | none => simp [hq] at hs
          | some q =>
            simp only [hq, Option.map_some, Option.some.injEq] at hs
            subst hs
            have ih := setV_fz hy r q (fun x hx => h x (by simp [hx])) hq
            intro x hx
            simp only [List.mem_cons] at hx h
            rcases hx with rfl | rfl | hx
            · rfl
            · exact h _ (.inr (.inl rfl))
            · exact ih x hx
      · cases hs
    · cases hs

theorem delV_fz {kd : IntKind} {n : Int} : ∀ (kvs kvs' : List V), (∀ x ∈ kvs, fzV x = true) → delV kd n kvs = some kvs' → ∀ x ∈ kvs', fzV x = true
  | kvs, kvs', h, hs => by
    unfold delV at hs
    split at hs
    · cases hs
      intro x hx
      cases hx
    · rename_i k a v r
      split at hs
      · split at hs
        · cases hs
          exact fun x hx => h x (by simp [hx])
        · cases hq : delV kd n r with
          | none => simp [hq] at hs
          | some q =>
            simp only [hq, Option.map_some, Option.some.injEq] at hs
            subst hs
            have ih := delV_fz r q (fun x hx => h x (by simp [hx])) hq
            intro x hx
            simp only [List.mem_cons] at hx h
            rcases hx with rfl | rfl | hx
            · rfl
            · exact h _ (.inr (.inl rfl))
            · exact ih x hx
      · cases hs
    · cases hs

/-! ### the operations -/

/-- What is met at a map of a box. -/
theorem map_met {E : Env} {P : Program} {B : Nat} {w0 : Start} {σ : Sg} {H : Heap} {w : World} (hE : EnvOK E) (hP : E.P = P) (hI : Inv B w0 σ H w) {id : Nat} {mv : Value} (hm : Reps σ w [.mref id] [mv]) {b : Box} (hb : H[id]? = some b) (hmb : mapB b = true) :
    ∃ g es c, mv = .map (some g) ∧ σ.mp id = some g ∧ w.heap[g]? = some (.map es c) ∧ Reps σ w b.xs (es.toList.flatMap fun (e : MapEntry) => [e.key, e.val]) ∧ ∀ x ∈ b.xs, fzV x = true := by
  obtain ⟨g, es, c, us, h1, h2, h3, rfl, h5⟩ := hI.maps.ok id b hb hmb
  cases hm with
  | mref g' hg _ =>
    rw [h1] at hg
    cases hg
    exact ⟨g, es, c, rfl, h1, h2, h3, h5⟩

theorem findKey_ok {P : Program} {w : World} {k : TypeId} {kd : IntKind} {n : Int} (hk : P.underlying k = some (.int kd)) {l : List MapEntry} {q} (hq : Instr.findNow (.int kd) (.int kd n) l 0 = some q) : (Instr.findKey k (.int kd n) l).run P w = .ok q w := by
  simp [Instr.findKey, run_underlying hk, hq]

theorem mapType_ok {E : Env} {P : Program} (hE : EnvOK E) (hP : E.P = P) {t k e : Nat} {sz by' : Nat} {z} (h : E.ti t = some ⟨.map k e, sz, by', z⟩) : P.underlying t = some (.map k e) := by
  obtain ⟨inf, d, hi, hd, q1, q2, q3, q4⟩ := tiOf_some (hE.ti _ _ h)
  rw [hP] at hd
  rw [hd]
  cases d <;> simp [tyOf] at q1
  exact congrArg some (by rw [q1.1, q1.2])

theorem mapUp_ok {E : Env} {P : Program} {B : Nat} {w0 : Start} {σ : Sg} {H H' : Heap} {w : World} (hE : EnvOK E) (hP : E.P = P) (hI : Inv B w0 σ H w) {t : TypeId} {m x v : V} {mv xv vv : Value} (hm : Reps σ w [m] [mv]) (hx : Reps σ w [x] [xv]) (hv : Reps σ w [v] [vv])
    (h : mapUpD E H t m x v = some H') : ∃ w' σ', (Instr.mapUpdate t mv xv vv).run P w = .ok () w' ∧ Inv B w0 σ' H' w' ∧ Ext σ w σ' w' := by
  unfold mapUpD at h
  split at h
  · rename_i y hy
    split at h
    · rename_i hfy
      have hr1 := frz_reps hI hv hy (idsA v) (fun i hi => hi)
      obtain ⟨hI1, e1⟩ := hI.freeze (idsA v)
      unfold mapW at h
      split at h
      · rename_i k e sz by' z0 id kd n hti
        have hd := mapType_ok hE hP hti
        split at h
        · rename_i hkd
          have hk : P.underlying k = some (.int kd) := by rw [← hP]; exact hE.kind _ _ hkd.1
          split at h
          · rename_i b hb
            split at h
            · rename_i hmb
              cases hs : setV kd n y b.xs with
              | none => simp [hs] at h
              | some xs =>
                simp only [hs, Option.map_some, Option.some.injEq] at h
                subst h
                obtain ⟨g, es, c, rfl, g1, g2, g3, g4⟩ := map_met hE hP hI1 (hm.ext e1) hb hmb
                have hxv : xv = .int kd n := hx.lit_eq
                subst hxv
                have hlf : leaf (.int kd n) = true := by simpa [leaf] using hkd.2
                have hck : (Instr.checkKey false 10000 k (.int kd n)).run P w = .ok () w := MapKept.run_checkKey (k := .int kd n) hk (by simp [MapKept.IsKey]) false 9999
                have hfzs := setV_fz hfy b.xs xs g4 hs
                rcases setV_ok hr1 hlf c es.toList b.xs xs 0 g3 hs with ⟨f1, f2⟩ | ⟨j, v0, f1, f2, f3⟩
                · obtain ⟨i1, i2⟩ := hI1.setMap hb hmb g1 g2 (es' := es.push ⟨.int kd n, vv, c⟩) (c' := c + 1) (by simpa using f2) hfzs
                  refine ⟨_, _, ?_, i1, e1.trans i2⟩
                  simp [Instr.mapUpdate, run_underlying hd, MapKept.run_getObj_map g2, hck, findKey_ok hk f1, MapKept.run_setObj_map _ g2, Result.andThen, ChangeMaps.setBlock]
                · rw [Nat.zero_add] at f1
                  obtain ⟨i1, i2⟩ := hI1.setMap hb hmb g1 g2 (es' := es.modify j fun e => { e with key := .int kd n, val := vv }) (c' := c) (by rw [Array.toList_modify]; exact f3) hfzs
                  refine ⟨_, _, ?_, i1, e1.trans i2⟩
                  have hkk : ((es[j]?).map (·.key)).getD (.int kd n) = .int kd n := by
                    rw [← Array.getElem?_toList, f2]; rfl
                  have hst : ∀ v : Value, v = .int kd n → (Instr.keyThatStays v (.int kd n)).run P w = .ok (.int kd n) w := by
                    rintro v rfl
                    simp [Instr.keyThatStays, Instr.sameBits]
                  simp [Instr.mapUpdate, run_underlying hd, MapKept.run_getObj_map g2, hck, findKey_ok hk f1, hst _ hkk, MapKept.run_setObj_map _ g2, Result.andThen, ChangeMaps.setBlock]
            · cases h
          · cases h
        · cases h
      · cases h
    · cases h
  · cases h

theorem mapDel_ok {E : Env} {P : Program} {B : Nat} {w0 : Start} {σ : Sg} {H H' : Heap} {w : World} (hE : EnvOK E) (hP : E.P = P) (hI : Inv B w0 σ H w) {t u ty : TypeId} {m x : V} {mv xv : Value} (hm : Reps σ w [m] [mv]) (hx : Reps σ w [x] [xv])
    (h : mapW E H t m x delV = some H') : ∃ w', (Builtin.delete_ #[t, u] ty #[mv, xv]).run P w = .ok (.tuple #[]) w' ∧ Inv B w0 σ H' w' ∧ Ext σ w σ w' := by
  unfold mapW at h
  split at h
  · rename_i k e sz by' z0 id kd n hti
    have hd := mapType_ok hE hP hti
    split at h
    · rename_i hkd
      have hk : P.underlying k = some (.int kd) := by rw [← hP]; exact hE.kind _ _ hkd.1
      split at h
      · rename_i b hb
        split at h
        · rename_i hmb
          cases hs : delV kd n b.xs with
          | none => simp [hs] at h
          | some xs =>
            simp only [hs, Option.map_some, Option.some.injEq] at h
            subst h
            obtain ⟨g, es, c, rfl, g1, g2, g3, g4⟩ := map_met hE hP hI hm hb hmb
            have hxv : xv = .int kd n := hx.lit_eq
            subst hxv
            have hck : ∀ q, (Instr.checkKey q 10000 k (.int kd n)).run P w = .ok () w := fun q => MapKept.run_checkKey (k := .int kd n) hk (by simp [MapKept.IsKey]) q 9999
            have hfzs := delV_fz b.xs xs g4 hs
            rcases delV_ok es.toList b.xs xs 0 g3 hs with ⟨f1, f2⟩ | ⟨j, v0, f1, f3⟩
            · subst f2
              obtain ⟨i1, i2⟩ := hI.setMap hb hmb g1 g2 (es' := es) (c' := c) g3 hfzs
              refine ⟨_, ?_, i1, i2⟩
              simp [Builtin.delete_, run_underlying hd, MapKept.run_getObj_map g2, hck, findKey_ok hk f1, MapKept.run_setObj_map _ g2, Result.andThen, ChangeMaps.setBlock]
            · rw [Nat.zero_add] at f1
              obtain ⟨i1, i2⟩ := hI.setMap hb hmb g1 g2 (es' := es.eraseIdxIfInBounds j) (c' := c) (by rw [Array.toList_eraseIdxIfInBounds]; exact f3) hfzs
              refine ⟨_, ?_, i1, i2⟩
              simp [Builtin.delete_, run_underlying hd, MapKept.run_getObj_map g2, hck, findKey_ok hk f1, MapKept.run_setObj_map _ g2, Result.andThen, ChangeMaps.setBlock]
        · cases h
      · cases h
    · cases h
  · cases h

theorem makeMap_ok {P : Program} {B : Nat} {w0 : Start} {σ : Sg} {H : Heap} {w : World} (hI : Inv B w0 σ H w) {k : Nat} (hk : freeB H k = true) (t : TypeId) :
    (newObj (.map #[] 0)).run P w = .ok w.heap.size (w.alloc (.map #[] 0)) ∧ ∃ σ', Inv B w0 σ' (place H k (newMap t)) (w.alloc (.map #[] 0)) ∧ Ext σ w σ' (w.alloc (.map #[] 0)) ∧ Reps σ' (w.alloc (.map #[] 0)) [.mref k] [.map (some w.heap.size)] := by
  obtain ⟨i1, i2⟩ := hI.pushMap hk t (w.grownBy_alloc (.map #[] 0) none) (MapKept.heap_alloc w _).1
  exact ⟨by simp, _, i1, i2, .mref _ (by simp [Sg.map]) .nil⟩

/-! ### clear -/

theorem zeroCells_flat {zs : Value} {n : Nat} (h : zs.cells.size = n) (hn : 0 < n) (k : Nat) : (Builtin.zeroCells zs.cells k).toList = flat (List.replicate k zs) := by
  rw [← madeCells_flat hn h k, ← h]
  rfl

theorem clear_ok {E B w0 σ H w} {P : Program} (hE : EnvOK E) (hP : E.P = P) (h : Inv B w0 σ H w) {t : TypeId} (ty : TypeId) {d : V} {dv : Value} {H' : Heap}
    (hd : Reps σ w [d] [dv]) (hc : clearD E H t d = some H') :
    ∃ w' σ', (Builtin.clear_ #[t] ty #[dv]).run P w = .ok (.tuple #[]) w' ∧ Inv B w0 σ' H' w' ∧ Ext σ w σ' w' := by
  unfold clearD at hc
  split at hc
  · rename_i e sz by' z0 hti
    split at hc
    · rename_i ei id off len tot hei
      obtain ⟨inf, dd, hi, hdd, q1, q2, q3, q4⟩ := tiOf_some (hE.ti _ _ hti)
      have hd' : P.underlying t = some (.slice e) := by rw [hP] at hdd; rw [hdd, tyOf_slice q1]
      split at hc
      · rename_i b z hb hz
        split at hc
        · rename_i hcond
          simp only [Bool.and_eq_true, beq_iff_eq, decide_eq_true_eq] at hcond
          obtain ⟨⟨⟨⟨⟨c1, c2⟩, c3⟩, c4⟩, c6⟩, ⟨⟨c7, c8⟩, c9⟩, c10⟩ := hcond
          subst c2
          subst c3
          simp only [Option.some.injEq] at hc
          subst hc
          obtain ⟨infe, zv, hie, hzv, hsz, hbz, hzr⟩ := zok_some hE hP hei hz σ w
          have hzs : zv.cells.size = ei.size := by rw [← hzr.cells_len c9]; exact c8
          obtain ⟨L, vs, m, hxl, hol, hsub, hview⟩ := lsl_view h hd hb
          have hLe : L.esz = ei.size := by rw [← m.esz]; exact c4
          have hrep := Reps.replicate len (retype_reps (E.rows e) hzr)
          have hsizes : ∀ u ∈ List.replicate len zv, u.cells.size = L.esz := fun u hu => by rw [hLe, (List.mem_replicate.1 hu).2]; exact hzs
          have hones : ∀ u ∈ flat (List.replicate len zv), u.oneCell' = true := by
            intro u hu
            simp only [flat, List.mem_flatMap] at hu
            obtain ⟨a, ha, hb⟩ := hu
            rw [(List.mem_replicate.1 ha).2] at hb
            exact (hzr.cells c9).2 u hb
          have hzf := zeroCells_flat hzs c7 len
          have hlx : (List.replicate len (retype (E.rows e) z)).length = len := by simp
          rcases hview with ⟨hv, hvv, ho, hl, ht⟩ | ⟨g, cap, k, hv, hvv, hle, hmx, hk1, hk2⟩
          · omega
          · have hk0 : k = 0 := by omega
            subst hk0
            rcases m.shape with ⟨hn, _, _⟩ | ⟨g', cap', cur, tg, hv', hB, hh, htg, hn, hm, hcs, ht⟩
            · rw [hn] at hv; cases hv
            · rw [hv'] at hv
              simp only [Value.slice.injEq, Option.some.injEq, Addr.mk.injEq, and_true] at hv
              obtain ⟨hgg, _, hcc⟩ := hv
              have hgg := hgg.symm
              subst hgg
              have hcc := hcc.symm
              subst hcc
              have hFl : (flat (List.replicate len zv)).length = len * L.esz := by rw [flat_length hsizes]; simp
              have hfit : 0 + 0 + (flat (List.replicate len zv)).length ≤ cur.size := by
                rw [hFl, hcs]
                have : len ≤ cap := by omega
                simpa using Nat.mul_le_mul_right L.esz this
              have hrun := run_storeCells_tag P g 0 b.elem tg (flat (List.replicate len zv)) 0 cur w hh htg hfit hones
              simp only [Nat.add_zero, Nat.zero_add, List.take_zero, List.nil_append, hFl] at hrun
              have hheap := setRow_heap w g cur (flat (List.replicate len zv) ++ cur.toList.drop (len * L.esz)).toArray b.elem tg hh
              have hown : L.v.ownBlock = some g := by rw [hv']; rfl
              have hgb : w.grownBy (w.setRow g (flat (List.replicate len zv) ++ cur.toList.drop (len * L.esz)).toArray) L.v.ownBlock :=
                ⟨rfl, rfl, rfl, by simp, fun k _ hk => setRow_other w g k _ (fun e => hk (by rw [hown, e]))⟩
              obtain ⟨h1, h2⟩ := h.upd m.hb m.live m.box hgb { b with xs := List.replicate len (retype (E.rows e) z) } m.live L rfl (.inl rfl) rfl (by grind) (fun g' hg' => .inl hg')
                (fun g' c' _ hc' => by grind) (fun ex => by
                  refine ⟨by simp only [hlx]; rw [m.tot, hxl], ⟨List.replicate len zv, hrep.ext ex, hsizes, ?_, ?_⟩, m.nilp, m.esz, ?_, fun hrow => ?_⟩
                  · exact hones
                  · simp only [hlx]
                    refine ⟨hFl, .inr ⟨g, cap, _, tg, by rw [hv', hxl], hB, hheap, ?_, by omega, hm, ?_, ?_⟩⟩
                    · grind
                    · grind
                    grind
                  · intro y hy
                    rw [(List.mem_replicate.1 hy).2, retype_ok]
                    exact c9
                  · intro y hy
                    rw [(List.mem_replicate.1 hy).2, retype_noRef]
                    exact zero_noRef hE hei hz)
              refine ⟨_, _, ?_, h1, h2⟩
              rw [hvv]
              obtain ⟨n, rfl⟩ : ∃ n, len = n + 1 := ⟨len - 1, by omega⟩
              have hzr' : (zeroValue e).run P w = .ok zv w := by simp [zeroValue, typeInfo, hie, hzv]
              have hz2 : (Builtin.zeroCells zv.cells (n + 1)).toList = flat (List.replicate (n + 1) zv) := hzf
              simp [Builtin.clear_, run_underlying hd', hzr', hz2, hrun]
        · cases hc
      · cases hc
    · cases hc
  · cases hc

end Go.Proofs.YtpikcdlhgiooaaaGreat.Le

