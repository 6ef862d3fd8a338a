/-
  audit.Mesh: the walk.
-/
import Derived.Test.YtkepnndakhpgoaaGreatDoorMe
namespace Go.Proofs.YtkepnndakhpgoaaGreatDoor
open Go Go.RowKit Go.Maps
set_option linter.unusedVariables false
set_option maxRecDepth 100000

structure NotesAt (W : World) (a : Option Addr) (c : Nat) (N : List MN) (b o : Nat) (y : Nat → Nat → Value) : Prop where
  adr : N ≠ [] → a = some ⟨b, o, none⟩
  row : ∀ j (h : j < N.length), W.rangeAt b (o + j * 13) (N[j].cells (y j))
  one : ∀ j (h : j < N.length), ∀ u ∈ N[j].cells (y j), u.oneCell' = true
  len : N.length ≤ c
  max : c ≤ maxLen
  wf : ∀ x ∈ N, (Lit.int .u16 x.S).wf = true ∧ (Lit.int .u32 x.V).wf = true ∧ (Lit.int .u32 x.Q).wf = true ∧ (Lit.int .i64 x.Node).wf = true

theorem one_int (k : IntKind) (a : Int) : (Value.int k a).oneCell' = true := rfl
theorem cell_lt' {w : World} {b c : Nat} {u : Value} (h : w.cell? ⟨b, c, none⟩ = some u) : b < w.heap.size := World.block_lt_of_cell? w _ h
theorem und82 : Tryz.prog.underlying 82 = some (.struct #[⟨"Src", 41, 0, false, "", "", 0⟩, ⟨"IV", 34, 1, false, "", "", 4⟩, ⟨"Seq", 34, 2, false, "", "", 8⟩]) := by kernel_rfl
theorem keyOf82 (s : Int × Int × Int) (h : (Lit.int .u16 s.1).wf = true ∧ (Lit.int .u32 s.2.1).wf = true ∧ (Lit.int .u32 s.2.2).wf = true) : ∃ l, keyOf Tryz.prog 82 (keyV s) = some l := by
  obtain ⟨h1, h2, h3⟩ := h
  have hn : Tryz.prog.types.size = 402 := by kernel_rfl
  have hk : Tryz.prog.keyType 82 = true := by kernel_rfl
  have hc : Tryz.prog.cellsOf 82 = 3 := by kernel_rfl
  have u41 : Tryz.prog.underlying 41 = some (.int .u16) := by kernel_rfl
  have u34 : Tryz.prog.underlying 34 = some (.int .u32) := by kernel_rfl
  have c41 : Tryz.prog.cellsOf 41 = 1 := by kernel_rfl
  have c34 : Tryz.prog.cellsOf 34 = 1 := by kernel_rfl
  have a41 : ∀ (d : Nat) (n : Int), (Lit.int .u16 n).wf = true → Tryz.prog.keyLits (d + 1) 41 [.int .u16 n] = some [.int .u16 n] := fun d n h => by
    unfold Program.keyLits
    simp only [u41, h, and_self, if_true]
  have a34 : ∀ (d : Nat) (n : Int), (Lit.int .u32 n).wf = true → Tryz.prog.keyLits (d + 1) 34 [.int .u32 n] = some [.int .u32 n] := fun d n h => by
    unfold Program.keyLits
    simp only [u34, h, and_self, if_true]
  have hx : ∀ d, Tryz.prog.keyLits (d + 1 + 1) 82 [.int .u16 s.1, .int .u32 s.2.1, .int .u32 s.2.2] = some [.int .u16 s.1, .int .u32 s.2.1, .int .u32 s.2.2] := fun d => by
    unfold Program.keyLits
    simp only [und82, hc, List.length_cons, List.length_nil]
    rw [if_pos (by simp)]
    simp only [List.mapM_cons, List.mapM_nil, c41, c34, List.drop_zero, List.drop_succ_cons, List.take_succ_cons, List.take_zero, a41 d _ h1, a34 d _ h2, a34 d _ h3]
    rfl
  have hx := hx 401
  exact ⟨_, by
    unfold keyOf
    rw [und82]
    simp only [hk, hn, keyV, Value.formed, und82, hc, Value.cells, beq_self_eq_true, Bool.and_self, if_true, List.size_toArray, List.length_cons, List.length_nil]
    rw [show (402 + 1 : Nat) = 401 + 1 + 1 from rfl, hx]
    rfl⟩

theorem mtw_succ (N : List MN) (i : Int) (m : Nat) (h : m < N.length) : mtw N i (m + 1) = mstep i (mtw N i m) N[m] := by
  unfold mtw
  rw [List.take_add_one, List.getElem?_eq_getElem h, List.foldl_append]
  rfl
theorem mtw_old {N : List MN} {i : Int} {m : Nat} (h : m < N.length) (hn : ¬ (N[m].Node = i ∧ N[m].Kind = 1)) : mtw N i (m + 1) = mtw N i m := by
  rw [mtw_succ N i m h]
  unfold mstep
  rw [if_neg hn]
theorem mtw_new {N : List MN} {i : Int} {m : Nat} (h : m < N.length) (hn : N[m].Node = i ∧ N[m].Kind = 1) : mtw N i (m + 1) = ((mtw N i m).1 || decide (N[m].seq ∈ (mtw N i m).2), N[m].seq :: (mtw N i m).2) := by
  rw [mtw_succ N i m h]
  unfold mstep
  rw [if_pos hn]
theorem mlist_succ (N : List MN) (k : Nat) : mlist N (k + 1) = if (mtw N (k : Int) N.length).1 then mlist N k ++ [k] else mlist N k := by
  unfold mlist
  rw [List.range_succ, List.filter_append]
  cases h : (mtw N (k : Int) N.length).1 <;> simp [h]
theorem mlist_len (N : List MN) (k : Nat) : (mlist N k).length ≤ k := by
  have := List.length_filter_le (fun i : Nat => (mtw N (i : Int) N.length).1) (List.range k)
  simpa [mlist] using this
theorem mcells_add (a b : List Nat) : mcells (a ++ b) = mcells a ++ mcells b := List.flatMap_append
theorem cell_three_new (w : World) (a b c : Value) (t : TypeId) : ∀ j u, [a, b, c][j]? = some u → (w.alloc (.cells #[a, b, c] t)).cell? ((⟨w.heap.size, 0, none⟩ : Addr).add j) = some u := by
  intro j u hj
  rw [Addr.add_mid]
  match j, hj with
  | 0, hj => simpa using hj
  | 1, hj => simpa using hj
  | 2, hj => simpa using hj
  | j + 3, hj => simp at hj
theorem below_grown {w w' : World} (h : Below w.heap.size w w') : w.grownBy w' none := ⟨h.os, h.tape, h.output, h.size, fun k hk _ => h.block k hk⟩
theorem keyV_inj {s t : Int × Int × Int} (h : keyV s = keyV t) : s = t := by
  unfold keyV at h
  simp only [Value.agg.injEq, Array.mk.injEq, List.cons.injEq, Value.int.injEq, true_and, and_true] at h
  exact Prod.ext h.1 (Prod.ext h.2.1 h.2.2)

set_option maxHeartbeats 4000000 in
theorem mesh_calls (a0 : Option Addr) (l0 c0 : Nat) (x1 x2 x3 x4 x5 : Value) (an : Option Addr) (cn : Nat) (N : List MN) (b o : Nat) (y : Nat → Nat → Value) (w : World) (hN : NotesAt w an cn N b o y) (h0 : l0 ≤ 1000) (hn : N.length ≤ 1000)
    (hx : x1.oneCell' = true ∧ x2.oneCell' = true ∧ x3.oneCell' = true ∧ x4.oneCell' = true ∧ x5.oneCell' = true) :
    Calls Tryz.prog 6 #[.agg #[.slice a0 l0 c0, x1, x2, x3, x4, x5, .slice an N.length cn]] w fun e w' => ∃ v, e = .returned v ∧
      w'.ownsRow (w.heap.size + 1) 70 3 v (mlist N l0).length (mcells (mlist N l0)) ∧ Below w.heap.size w w' := by
  have hmm := @run_makeMap Tryz.prog
  obtain ⟨i0, hi, hz0, hz1, hz2⟩ := info_parts info70
  go_enter Tryz.func6, Tryz.ntmps6
  go_wp2
  obtain ⟨W1, hW1⟩ : ∃ W1, w.alloc (.cells #[.slice a0 l0 c0, x1, x2, x3, x4, x5, .slice an N.length cn] 29) = W1 := ⟨_, rfl⟩
  have hs1 : W1.heap.size = w.heap.size + 1 := by rw [← hW1]; simp
  have hb1 : Below w.heap.size w W1 := by rw [← hW1]; exact (Below.refl _ _).alloc (Nat.le_refl _) _
  have hc6 : W1.cell? ⟨w.heap.size, 6, none⟩ = some (.slice an N.length cn) := by rw [← hW1]; simp
  go_loopw [3, 12] (fun v i wr => ∃ k : Nat, k ≤ l0 ∧ i = .int .i64 (k : Int) ∧ wr.ownsRow (w.heap.size + 1) 70 3 v (mlist N k).length (mcells (mlist N k)) ∧ Below (w.heap.size + 1) W1 wr)
    (fun _ i _ => l0 - (intOf i).toNat)
  case atStart => exact ⟨0, Nat.zero_le _, rfl, World.ownsRow_nil _ _ _ _, by rw [hW1]; exact Below.refl _ _⟩
  case round =>
    obtain ⟨k, hk, rfl, hrow, hbl⟩ := hrel
    obtain ⟨wo, hwo⟩ : ∃ wo, wo = wr := ⟨_, rfl⟩
    subst hwo
    have hc6r : wo.cell? ⟨w.heap.size, 6, none⟩ = some (.slice an N.length cn) := (hbl.cell (p := ⟨w.heap.size, 6, none⟩) (by simp)).trans hc6
    have hsz : w.heap.size + 1 ≤ wo.heap.size := by have := hbl.size; omega
    have hc6m : (wo.alloc (.map #[] 0)).cell? ⟨w.heap.size, 6, none⟩ = some (.slice an N.length cn) := by
      rw [World.cell?_alloc_old _ _ _ (by simp only; omega)]; exact hc6r
    by_cases hlt : k < l0
    · have e1 : (k : Int) < l0 := by omega
      go_wp2
      go_loopw [6, 19] (fun tw j wi => ∃ m : Nat, m ≤ N.length ∧ j = .int .i64 (m : Int) ∧ tw = .bool (mtw N (k : Int) m).1 ∧ MapSet Tryz.prog 82 wi wo.heap.size m (fun v => ∃ s ∈ (mtw N (k : Int) m).2, v = keyV s) ∧
          Below wo.heap.size wo wi ∧ wo.heap.size + 1 ≤ wi.heap.size) (fun _ j _ => N.length - (intOf j).toNat)
      case atStart => exact ⟨0, Nat.zero_le _, rfl, rfl, (MapSet.made _ _ _).congr (by simp [mtw]), (Below.refl _ _).alloc (Nat.le_refl _) _, by simp⟩
      case round =>
        obtain ⟨m, hm, rfl, rfl, hset, hbi, hsi⟩ := hrel
        obtain ⟨wi, hwi⟩ : ∃ wi, wi = wr := ⟨_, rfl⟩
        subst hwi
        by_cases hmN : m < N.length
        · have f1 : (m : Int) < N.length := by omega
          have f2 : (0 ≤ (m : Int)) := by omega
          obtain rfl := hN.adr (by rintro rfl; simp at hmN)
          have hbw : b < w.heap.size := cell_lt' (hN.row m hmN 0 _ rfl)
          have hbw1 : b < W1.heap.size := by omega
          have hbwo : b < wo.heap.size := by omega
          obtain ⟨x, hx⟩ : ∃ x, N[m] = x := ⟨_, rfl⟩
          have hc : ∀ j v, (x.cells (y m))[j]? = some v → wi.cell? ⟨b, o + m * 13 + j, none⟩ = some v := fun j v hj =>
            (hbi.cell (p := ⟨b, _, none⟩) hbwo).trans ((hbl.cell (p := ⟨b, _, none⟩) (by simp only; omega)).trans ((hb1.cell (p := ⟨b, _, none⟩) hbw).trans (hN.row m hmN j v (by rw [hx]; exact hj))))
          have ho : ∀ u ∈ x.cells (y m), u.oneCell' = true := by rw [← hx]; exact hN.one m hmN
          have c0 : wi.cell? ⟨b, o + m * 13, none⟩ = some (.int .i64 x.Node) := hc 0 _ rfl
          have c1 : wi.cell? ⟨b, o + m * 13 + 1, none⟩ = some (y m 1) := hc 1 _ rfl
          have c2 : wi.cell? ⟨b, o + m * 13 + 2, none⟩ = some (.int .i64 x.Kind) := hc 2 _ rfl
          have c3 : wi.cell? ⟨b, o + m * 13 + 3, none⟩ = some (y m 3) := hc 3 _ rfl
          have c4 : wi.cell? ⟨b, o + m * 13 + 4, none⟩ = some (y m 4) := hc 4 _ rfl
          have c5 : wi.cell? ⟨b, o + m * 13 + 5, none⟩ = some (y m 5) := hc 5 _ rfl
          have c6 : wi.cell? ⟨b, o + m * 13 + 6, none⟩ = some (y m 6) := hc 6 _ rfl
          have c7 : wi.cell? ⟨b, o + m * 13 + 7, none⟩ = some (.int .u16 x.S) := hc 7 _ rfl
          have c8 : wi.cell? ⟨b, o + m * 13 + 8, none⟩ = some (.int .u32 x.V) := hc 8 _ rfl
          have c9 : wi.cell? ⟨b, o + m * 13 + 9, none⟩ = some (.int .u32 x.Q) := hc 9 _ rfl
          have c10 : wi.cell? ⟨b, o + m * 13 + 10, none⟩ = some (y m 10) := hc 10 _ rfl
          have c11 : wi.cell? ⟨b, o + m * 13 + 11, none⟩ = some (y m 11) := hc 11 _ rfl
          have c12 : wi.cell? ⟨b, o + m * 13 + 12, none⟩ = some (y m 12) := hc 12 _ rfl
          have o1 : (y m 1).oneCell' = true := ho _ (by simp [MN.cells])
          have o3 : (y m 3).oneCell' = true := ho _ (by simp [MN.cells])
          have o4 : (y m 4).oneCell' = true := ho _ (by simp [MN.cells])
          have o5 : (y m 5).oneCell' = true := ho _ (by simp [MN.cells])
          have o6 : (y m 6).oneCell' = true := ho _ (by simp [MN.cells])
          have o10 : (y m 10).oneCell' = true := ho _ (by simp [MN.cells])
          have o11 : (y m 11).oneCell' = true := ho _ (by simp [MN.cells])
          have o12 : (y m 12).oneCell' = true := ho _ (by simp [MN.cells])
          generalize y m 1 = y1 at c1 o1
          generalize y m 3 = y3 at c3 o3
          generalize y m 4 = y4 at c4 o4
          generalize y m 5 = y5 at c5 o5
          generalize y m 6 = y6 at c6 o6
          generalize y m 10 = y10 at c10 o10
          generalize y m 11 = y11 at c11 o11
          generalize y m 12 = y12 at c12 o12
          clear hc ho
          have s1 := fun (w : World) (a : Addr) (m : Mode) => run_store Tryz.prog w a y1 m o1
          have s3 := fun (w : World) (a : Addr) (m : Mode) => run_store Tryz.prog w a y3 m o3
          have s4 := fun (w : World) (a : Addr) (m : Mode) => run_store Tryz.prog w a y4 m o4
          have s5 := fun (w : World) (a : Addr) (m : Mode) => run_store Tryz.prog w a y5 m o5
          have s6 := fun (w : World) (a : Addr) (m : Mode) => run_store Tryz.prog w a y6 m o6
          have s10 := fun (w : World) (a : Addr) (m : Mode) => run_store Tryz.prog w a y10 m o10
          have s11 := fun (w : World) (a : Addr) (m : Mode) => run_store Tryz.prog w a y11 m o11
          have s12 := fun (w : World) (a : Addr) (m : Mode) => run_store Tryz.prog w a y12 m o12
          by_cases q1 : x.Node = (k : Int)
          · by_cases q2 : x.Kind = 1
            · have hnew := mtw_new (i := (k : Int)) hmN (by rw [hx]; exact ⟨q1, q2⟩)
              rw [hx] at hnew
              obtain ⟨kl, hkl⟩ := keyOf82 x.seq (by have := hN.wf x (hx ▸ List.getElem_mem hmN); exact ⟨this.1, this.2.1, this.2.2.1⟩)
              have hset2 := hset.alloc (.cells #[.int .i64 (k : Int), y1, .int .i64 1, y3, y4, y5, y6, .int .u16 x.S, .int .u32 x.V, .int .u32 x.Q, y10, y11, y12] 88)
              obtain ⟨c, hlk, hcs⟩ := hset2.lookup keyed82 und80 (zero4 _) hkl
              obtain ⟨w3, hup, hset3, hg3⟩ := hset2.store keyed82 und80 (by unfold maxLen; omega) hkl
              have hcs2 : c = decide (x.seq ∈ (mtw N (k : Int) m).2) := by
                rw [Bool.eq_iff_iff, hcs, decide_eq_true_eq]
                exact ⟨fun ⟨s, h1, h2⟩ => keyV_inj h2 ▸ h1, fun h => ⟨_, h, rfl⟩⟩
              simp only [keyV, MN.seq] at hlk hup
              have hset4 := hset3.congr (S' := fun v => ∃ s ∈ x.seq :: (mtw N (k : Int) m).2, v = keyV s) (fun v => by simp)
              have hb4 : Below wo.heap.size wo w3 := (hbi.alloc (by omega) _).grown hg3 (by simp; omega) (fun j e => by cases e; exact Nat.le_refl _)
              have hs4 : wo.heap.size + 1 ≤ w3.heap.size := by have := hg3.size; simp at this; omega
              cases htw : (mtw N (k : Int) m).1 with
              | false =>
                go_wp2
                go_roundw
                case rel => exact ⟨m + 1, by omega, by go_num, by rw [hnew, htw]; rfl, by rw [hnew]; exact hset4, hb4, hs4⟩
                case measure => simp [intOf]; omega
              | true =>
                go_wp2
                go_roundw
                case rel => exact ⟨m + 1, by omega, by go_num, by rw [hnew, htw]; rfl, by rw [hnew]; exact hset4, hb4, hs4⟩
                case measure => simp [intOf]; omega
            · have hold := mtw_old (i := (k : Int)) hmN (by rw [hx]; exact fun h => q2 h.2)
              go_wp2
              go_roundw
              case rel => exact ⟨m + 1, by omega, by go_num, by rw [hold], by rw [hold]; exact (hset.alloc _).mono (Nat.le_succ _), hbi.alloc (by omega) _, by simp; omega⟩
              case measure => simp [intOf]; omega
          · have hold := mtw_old (i := (k : Int)) hmN (by rw [hx]; exact fun h => q1 h.1)
            go_wp2
            go_roundw
            case rel => exact ⟨m + 1, by omega, by go_num, by rw [hold], by rw [hold]; exact (hset.alloc _).mono (Nat.le_succ _), hbi.alloc (by omega) _, by simp; omega⟩
            case measure => simp [intOf]; omega
        · have f1 : ¬ ((m : Int) < N.length) := by omega
          obtain rfl : m = N.length := by omega
          have hgi := below_grown hbi
          have hrow2 := hrow.kept hgi (by cases u3.ownBlock <;> simp)
          have hbl2 : Below (w.heap.size + 1) W1 wi := hbl.grown hgi hsz (fun j e => by cases e)
          have hml := mlist_len N k
          have hms := mlist_succ N k
          cases htw : (mtw N (k : Int) N.length).1 with
          | false =>
            rw [htw, if_neg (by simp)] at hms
            go_wp2
            go_roundw
            case rel => exact ⟨k + 1, by omega, by go_num, by rw [hms]; exact hrow2, hbl2⟩
            case measure => simp [intOf]; omega
          | true =>
            rw [htw, if_pos rfl] at hms
            go_wp2_with (first
              | (at_builtin; refine wpList_append_own _ rfl _ _ 31 rfl (w.heap.size + 1) 70 i0 (.agg #[.int .i64 0, .int .i64 0, .int .i64 0]) 3 24 und31 hi hz0 hz1 hz2 rfl (by decide) _ _ _ rfl (hrow2.alloc _) ⟨wi.heap.size, 0, none⟩ 1 1 [.int .i64 7, .int .i64 (k : Int), .int .i64 0] rfl rfl (cell_three_new _ _ _ _ _) (fun x hx => by simp at hx; rcases hx with rfl | rfl | rfl <;> rfl) (by unfold maxLen; omega) (by omega) (by simp; omega) ?_; intro v' w3 hown' hgrow3 hnil3)
              | go_in)
            have hsi2 : w.heap.size + 1 ≤ wi.heap.size := by omega
            have hbl3 := (hbl2.alloc hsi2 (.cells #[.int .i64 7, .int .i64 (k : Int), .int .i64 0] 70)).grown hgrow3 (by simp; omega) (fun j e => ((hrow2.alloc (.cells #[.int .i64 7, .int .i64 (k : Int), .int .i64 0] 70)).lt j e).1)
            go_roundw
            case rel => exact ⟨k + 1, by omega, by go_num, by rw [hms, List.length_append, mcells_add]; exact hown', hbl3⟩
            case measure => simp [intOf]; omega
    · have e1 : ¬ ((k : Int) < l0) := by omega
      obtain rfl : k = l0 := by omega
      go_wp2
      go_ret
      exact ⟨_, rfl, hrow, hb1.trans (hbl.mono (by omega))⟩
end Go.Proofs.YtkepnndakhpgoaaGreatDoor
