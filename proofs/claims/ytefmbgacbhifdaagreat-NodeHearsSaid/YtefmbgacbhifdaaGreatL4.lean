/-
  A part of the proof.
-/
import Derived.Test.YtefmbgacbhifdaaGreatL3
namespace Go.Proofs.YtefmbgacbhifdaaGreat.Le
open Go.RowKit (Below)
def Zhd (P : Program) (E : Env) (f : FuncId) (as : List V) (r : V) : Prop :=
 ∀ (fz : Nat -> Nat -> Prop) (w : World) (vs : List Value), (∀ b c, fz b c -> ∃ u, w.cell? ⟨b, c, none⟩ = some u) -> Z0C E (bare fz) w -> Zv (bare fz) w as vs ->
  Calls P f vs.toArray w fun e w' => ∃ u fz', e = .returned u /\ Below w.heap.size w w' /\ (∀ b c, fz b c -> fz' b c) /\ (∀ b c, fz' b c -> b < w.heap.size -> fz b c) /\
   (∀ b c, fz' b c -> ∃ u, w'.cell? ⟨b, c, none⟩ = some u) /\ Zv (bare fz') w' [r] [u] /\ Z05 r = true
def Zp1 (P : Program) (E : Env) (f : FuncId) (as : List V) (e sz : Nat) (xs : List V) : Prop :=
 ∀ (fz : Nat -> Nat -> Prop) (w : World) (vs : List Value), (∀ b c, fz b c -> ∃ u, w.cell? ⟨b, c, none⟩ = some u) -> Z0C E (bare fz) w -> Zv (bare fz) w as vs ->
  Calls P f vs.toArray w fun en w' => ∃ u us fz', en = .returned u /\ Below w.heap.size w w' /\ (∀ b c, fz b c -> fz' b c) /\ (∀ b c, fz' b c -> b < w.heap.size -> fz b c) /\
   (∀ b c, fz' b c -> ∃ u, w'.cell? ⟨b, c, none⟩ = some u) /\ Zv (bare fz') w' xs us /\ (∀ x ∈ xs, fzV x = true) /\ (∀ u ∈ us, u.cells.size = sz) /\ (∀ u ∈ flat us, u.oneCell' = true) /\
   ZiZ w' w.heap.size e sz u xs.length (flat us) /\ (∀ g c, u.ownBlock = some g -> ¬ fz' g c)
def Z9U (P : Program) (f : FuncId) : Prop := ∃ fn, P.funcs[f]? = some fn /\ fn.body.isNone = false /\ (fn.name == "runtime.NumGoroutine") = false
structure Znx (P : Program) (E : Env) : Prop where
 env : ∀ f F, E.env f = some F -> Z9U P f /\ ∀ as r, ZH as = true -> F as = some r -> match E.own f with | none => Zhd P E f as r | some e => ∀ sz xs, r = .sl false sz xs -> Zp1 P E f as e sz xs
 hm : ∀ f key hs, E.hm f key = some hs -> Z9U P f /\ ∀ as H0 r H1, hs.run as H0 = some (r, H1) -> ZsX P E f as H0 r H1
theorem Below.grownBy {w w' : World} (h : Below w.heap.size w w') : w.grownBy w' none := ⟨h.os, h.tape, h.output, h.size, fun k hk _ => h.block k hk⟩
theorem Ziq {B w0 σ H w} (h : Inv B w0 σ H w) {x x' : V} {v : Value} (hr : Zv σ w [x] [v]) (hf : Zt2 H x = some x') : Z05 x' = true := by
 unfold Zt2 at hf
 split at hf
 ·rename_i vs
  cases hr with
  | tup h1 _ =>
   cases hl : Z2q H vs with
   | none => simp [hl] at hf
   | some vs' =>
    simp only [hl, Option.map_some, Option.some.injEq] at hf
    subst hf
    exact Z72 h h1 hl
 ·exact Zgt h hr hf
section
variable {P : Program} {E : Env} {B : Nat} {w0 : Start} {σ : Sg} {H : Heap} {w : World} {f : FuncId}
theorem Znr {args as : List V} {r : V} {vs : List Value} (ts : List TypeId) (hp : Zhd P E f (Z0r E.rows ts as) r) (hf : Z2q H args = some as) (hI : Inv B w0 σ H w) (hg : Z0C E σ w) (hr : Zv σ w args vs) :
  Calls P f vs.toArray w fun e w' => ∃ u σ', e = .returned u /\ Inv B w0 σ' (bump H (args.flatMap Z8b)) w' /\ Ext σ w σ' w' /\ Zv σ' w' [r] [u] := by
 obtain ⟨hI1, hEx1⟩ := hI.freeze (args.flatMap Z8b)
 have hr1 := Z9T E.rows ts (Zbj hI hr hf (args.flatMap Z8b) (fun i hi => hi))
 have hn : ZH (Z0r E.rows ts as) = true := by rw [Z5U]; exact Z72 hI hr hf
 generalize hσ1 : σ.freeze H (args.flatMap Z8b) = σ1 at hI1 hEx1 hr1
 have hbox1 : σ1.box = σ.box := by rw [<- hσ1]; rfl
 have hfz0 : ∀ b c, σ1.fz b c -> (bare σ1.fz).fz b c /\ w.cell? ⟨b, c, none⟩ = w.cell? ⟨b, c, none⟩ := fun b c h => ⟨h, rfl⟩
 refine (hp σ1.fz w vs hI1.cells ((hg.ext hEx1).bare hfz0) (hr1.bare hfz0 hn)).mono ?_
 rintro e w' ⟨u, fz', rfl, hb, hmono, hold, hcells, hru, hnr⟩
 obtain ⟨hI2, hEx2⟩ := hI1.grown (Below.grownBy hb)
 have hcell : ∀ b c, σ1.fz b c -> w'.cell? ⟨b, c, none⟩ = w.cell? ⟨b, c, none⟩ := fun b c h => (hEx2.fz b c h).2
 have hex : Ext σ1 w' ⟨σ1.box, fz'⟩ w' := ⟨fun id L hL => ⟨L, hL, rfl, .inl rfl⟩, fun b c h => ⟨hmono b c h, rfl⟩⟩
 refine ⟨u, ⟨σ1.box, fz'⟩, rfl, ⟨hI2.below, hI2.size, hI2.dom, fun id bx hb hl => ?_, hI2.apart, hcells, fun b c hc id bx L hb hl hL hown => ?_, hI2.low, fun b c hc hlt => ?_, fun b hb => ?_⟩, hEx1.trans (hEx2.trans hex), ?_⟩
 ·obtain ⟨L, hL, hok⟩ := hI2.boxes id bx hb hl
  obtain ⟨us, h1, h2, h3, h4⟩ := hok.Z93
  exact ⟨L, hL, ⟨hok.tot, ⟨us, h1.ext hex, h2, h3, h4⟩, hok.Zco, hok.esz, hok.oks, hok.fzs⟩⟩
 ·obtain ⟨L', hL', hok⟩ := hI1.boxes id bx hb hl
  rw [show σ1.box id = some L from hL] at hL'
  cases hL'
  exact hI1.floor b c (hold b c hc (hok.block_lt hown).2) id bx L hb hl hL hown
 ·exact hI1.old b c (hold b c hc (Nat.lt_of_lt_of_le hlt hI1.size)) hlt
 ·obtain ⟨k1, k2, k3, k4⟩ := hI2.kept b hb
  exact ⟨k1, k2, k3, fun c hc => k4 c (hold b c hc (hI1.kept b hb).1)⟩
 ·exact hru.bare (fun b c h => ⟨h, rfl⟩) (by simp [ZH, hnr])
theorem ownsRow_base {w : World} {b b' e sz n : Nat} {v : Value} {us : List Value} (h : ZiZ w b e sz v n us) (hb : b' <= b) : ZiZ w b' e sz v n us := by
 refine ⟨h.1, ?_⟩
 rcases h.2 with h | ⟨g, cap, cur, tg, h1, h2, h3⟩
 ·exact .inl h
 ·exact .inr ⟨g, cap, cur, tg, h1, by omega, h3⟩
theorem Zrz {args as : List V} {e sz : Nat} {xs : List V} {vs : List Value} (ts : List TypeId) (hp : Zp1 P E f (Z0r E.rows ts as) e sz xs) (hf : Z2q H args = some as) (hI : Inv B w0 σ H w) (hg : Z0C E σ w) (hr : Zv σ w args vs) :
  Calls P f vs.toArray w fun en w' => ∃ u σ', en = .returned u /\ Inv B w0 σ' (place (bump H (args.flatMap Z8b)) H.length (ZK true false e sz xs)) w' /\ Ext σ w σ' w' /\ Zv σ' w' [.lsl H.length 0 xs.length xs.length] [u] := by
 obtain ⟨hI1, hEx1⟩ := hI.freeze (args.flatMap Z8b)
 have hr1 := Z9T E.rows ts (Zbj hI hr hf (args.flatMap Z8b) (fun i hi => hi))
 have hn : ZH (Z0r E.rows ts as) = true := by rw [Z5U]; exact Z72 hI hr hf
 generalize hσ1 : σ.freeze H (args.flatMap Z8b) = σ1 at hI1 hEx1 hr1
 have hfz0 : ∀ b c, σ1.fz b c -> (bare σ1.fz).fz b c /\ w.cell? ⟨b, c, none⟩ = w.cell? ⟨b, c, none⟩ := fun b c h => ⟨h, rfl⟩
 refine (hp σ1.fz w vs hI1.cells ((hg.ext hEx1).bare hfz0) (hr1.bare hfz0 hn)).mono ?_
 rintro en w' ⟨u, us, fz', rfl, hb, hmono, hold, hcells, hru, hfzv, hsz, hone, hown, hnfz⟩
 obtain ⟨hI2, hEx2⟩ := hI1.grown (Below.grownBy hb)
 have hex : Ext σ1 w' ⟨σ1.box, fz'⟩ w' := ⟨fun id L hL => ⟨L, hL, rfl, .inl rfl⟩, fun b c h => ⟨hmono b c h, rfl⟩⟩
 have hI3 : Inv B w0 ⟨σ1.box, fz'⟩ (bump H (args.flatMap Z8b)) w' := by
  refine ⟨hI2.below, hI2.size, hI2.dom, fun id bx hb hl => ?_, hI2.apart, hcells, fun b c hc id bx L hb hl hL hown => ?_, hI2.low, fun b c hc hlt => ?_, fun b hb => ?_⟩
  ·obtain ⟨L, hL, hok⟩ := hI2.boxes id bx hb hl
   obtain ⟨us, h1, h2, h3, h4⟩ := hok.Z93
   exact ⟨L, hL, ⟨hok.tot, ⟨us, h1.ext hex, h2, h3, h4⟩, hok.Zco, hok.esz, hok.oks, hok.fzs⟩⟩
  ·obtain ⟨L', hL', hok⟩ := hI1.boxes id bx hb hl
   rw [show σ1.box id = some L from hL] at hL'
   cases hL'
   exact hI1.floor b c (hold b c hc (hok.block_lt hown).2) id bx L hb hl hL hown
  ·exact hI1.old b c (hold b c hc (Nat.lt_of_lt_of_le hlt hI1.size)) hlt
  ·obtain ⟨k1, k2, k3, k4⟩ := hI2.kept b hb
   exact ⟨k1, k2, k3, fun c hc => k4 c (hold b c hc (hI1.kept b hb).1)⟩
 have hblk : ∀ g, u.ownBlock = some g -> w.heap.size <= g := by
  intro g hg'
  rcases hown.2 with ⟨hv, _⟩ | ⟨g', cap, cur, tg, hv, hle, _⟩
  ·rw [hv] at hg'; cases hg'
  ·rw [hv] at hg'
   simp only [Value.ownBlock, Option.some.injEq] at hg'
   omega
 have hnr : ZH xs = true := Z41 hfzv
 have hk : Z5O (bump H (args.flatMap Z8b)) H.length = true := by
  have := ZcU (bump H (args.flatMap Z8b))
  rwa [bump_length] at this
 obtain ⟨hI4, hEx4⟩ := hI3.ZAr hk (ZK true false e sz xs) rfl ⟨u, xs.length, sz⟩ (by simp [ZK])
  (fun id bx' L' g h1 h2 h3 h4 h5 => by
   obtain ⟨L'', hL'', hok⟩ := hI1.boxes id bx' h1 h2
   rw [show σ1.box id = some L' from h3] at hL''
   cases hL''
   have := (hok.block_lt h4).2
   have := hblk g h5
   omega)
  (fun g c h => hnfz g c h) (fun g h hk => by have := (hI1.kept g hk).1; have := hblk g h; omega)
  ⟨rfl, ⟨us, hru.bare (fun b c h => ⟨h, rfl⟩) hnr, hsz, hone, by simpa [ZK] using ownsRow_base hown hI1.size⟩, by simp [ZK], rfl, Zsu hfzv, fun _ x hx => Z8r (hfzv x hx)⟩
 have hval : ∃ a n c, u = .slice a n c /\ n = xs.length /\ n <= c := by
  rcases hown.2 with ⟨hv, hn⟩ | ⟨g, cap, cur, tg, hv, _, _, _, hnc, _⟩
  ·exact ⟨none, 0, 0, hv, hn.symm, Nat.le_refl _⟩
  ·exact ⟨_, _, cap, hv, rfl, hnc⟩
 obtain ⟨a, n, c, hv, hn', hnc⟩ := hval
 refine ⟨u, _, rfl, hI4, hEx1.trans (hEx2.trans (hex.trans hEx4)), .lsl (L := ⟨u, xs.length, sz⟩) (by simp [Sg.put]) (Nat.le_refl _) (fun _ => ⟨by omega, a, n, c, 0, hv, ?_, Nat.zero_le _, Nat.le_refl _, fun _ => rfl⟩) ⟨a, n, c, hv⟩ .nil⟩
 subst hn'
 rw [hv]
 cases a with
 | none => simp
 | some a => simp [Addr.add]
theorem Zvw (hE : Z15 E) (hP : E.P = P) {call : Z1Y} (hcall : Z8h P E B w0 call) (hpure : Z9V E call) {fn : Func} (hfn : E.func f = some fn) {n : Nat} {args : List V} {H' : Heap} {r : V} {vs : List Value}
  (hb : Zrk call n E f fn args H = some (r, H')) (hI : Inv B w0 σ H w) (hg : Z0C E σ w) (hr : Zv σ w args vs) :
  Z9U P f /\ Calls P f vs.toArray w fun e w' => ∃ u σ', e = .returned u /\ Inv B w0 σ' H' w' /\ Ext σ w σ' w' /\ Zv σ' w' [r] [u] := by
 unfold Zrk at hb
 cases hbody : fn.body with
 | none => simp [hbody] at hb
 | some c =>
  simp only [hbody] at hb
  obtain ⟨hf1, hf2⟩ := hE.func f fn hfn
  rw [hP] at hf1
  refine ⟨⟨fn, hf1, by simp [hbody], hf2⟩, calls_of_wp hf1 hbody ?_⟩
  have hcm := hE.calm f fn c hfn hbody
  have hslots : Zv σ w (args ++ List.replicate (fn.ntmps - args.length) Z0X) (vs.toArray ++ Array.replicate (fn.ntmps - vs.toArray.size) undef).toList := by
   simp only [Array.toList_append, Array.toList_replicate, List.size_toArray]
   rw [<- hr.length]
   exact hr.append (Zv.replicate _ (.no .nil))
  have hrel : Rel E B w0 σ ⟨args ++ List.replicate (fn.ntmps - args.length) Z0X, H⟩ { tmps := vs.toArray ++ Array.replicate (fn.ntmps - vs.toArray.size) undef, defers := [] } w := ⟨hI, hg, hslots, rfl⟩
  have hfin : ∀ st, (Z46 E st.H st.s fn.results.toList).map (·, st.H) = some (r, H') -> ∀ a' w' σ', Rel E B w0 σ' st a' w' -> Ext σ w σ' w' ->
    a'.defers = [] /\ ∃ v, (results fn a'.tmps).run P w' = .ok v w' /\ (fun e w' => ∃ u σ', e = Ending.returned u /\ Inv B w0 σ' H' w' /\ Ext σ w σ' w' /\ Zv σ' w' [r] [u]) (.returned v) w' := by
   intro st hres a' w' σ' hr' he'
   cases hx : Z46 E st.H st.s fn.results.toList with
   | none => simp [hx] at hres
   | some x =>
    simp only [hx, Option.map_some, Option.some.injEq, Prod.mk.injEq] at hres
    obtain ⟨rfl, rfl⟩ := hres
    obtain ⟨u, hu, hur⟩ := ZdH (P := P) hE hP hr'.inv hr'.slots hx
    exact ⟨hr'.calm, u, hu, u, σ', rfl, hr'.inv, he', hur⟩
  split at hb
  ·rename_i st hc
   exact Zf5 hE hP hcall hpure (ZrY hE hP hcall hpure n) c _ .normal st hcm hc _ σ _ w hrel (hfin st hb)
  ·rename_i st hc
   exact Zf5 hE hP hcall hpure (ZrY hE hP hcall hpure n) c _ .ret st hcm hc _ σ _ w hrel (hfin st hb)
  ·cases hb
theorem Zx0 (hE : Z15 E) (hP : E.P = P) {call : Z1Y} (hcall : ∀ B w0, Z8h P E B w0 call) (hpure : Z9V E call) {fn : Func} (hfn : E.func f = some fn) {n : Nat} {as : List V} {H' : Heap} {r0 r : V}
  (hb : Zrk call n E f fn as [] = some (r0, H')) (hfr : Zt2 H' r0 = some r) : Zhd P E f as r := by
 intro fz w vs hcells hg hr
 have hI : Inv w.heap.size (Start.of w fz) (bare fz) [] w := ⟨Below.refl _ w, Nat.le_refl _, fun id L hL => (by cases hL), fun id bx hb => by simp at hb, fun i j b1 b2 L1 L2 g h1 => by simp at h1, hcells,
  fun b c hc id bx L hb => by simp at hb, fun id bx hb => by simp at hb, fun b c hc _ => hc, fun b hb => hb.elim⟩
 obtain ⟨_, hc⟩ := Zvw hE hP (hcall w.heap.size (Start.of w fz)) hpure hfn hb hI hg hr
 refine hc.mono ?_
 rintro e w' ⟨u, σ', rfl, hI', hEx', hr'⟩
 obtain ⟨hI2, hEx2⟩ := hI'.freeze (ZxX r0)
 have hr2 := ZkI hI' hr' hfr (ZxX r0) (fun i hi => hi)
 have hn := Ziq hI' hr' hfr
 refine ⟨u, (σ'.freeze H' (ZxX r0)).fz, rfl, hI2.below, fun b c h => (hEx2.fz b c (hEx'.fz b c h).1).1, fun b c h hlt => hI2.old b c h hlt, hI2.cells, ?_, hn⟩
 exact hr2.bare (fun b c h => ⟨h, rfl⟩) (by simp [ZH, hn])
theorem Zos {H : Heap} : ∀ {xs ys : List V}, Z2q H xs = some ys -> xs.length = ys.length := by
 intro xs
 induction xs with
 | nil => intro ys h; simp [Z2q] at h; subst h; rfl
 | cons x xs ih =>
  intro ys h
  simp only [Z2q] at h
  split at h
  ·rename_i a b ha hb
   simp only [Option.some.injEq] at h
   subst h
   simp [ih hb]
  ·cases h
theorem Zx4 {H H' : Heap} {x : V} (h : Z1y (Z1j x) H H') : ZoY H' x = ZoY H x := by
 unfold ZoY
 split
 ·rename_i id i off tot
  split
  ·cases hb : Z1L H id tot with
   | none => rw [Z6x (h id (by simp [Z1j, Zcn])) hb]
   | some b =>
    obtain ⟨b', h1, h2⟩ := Z5I (h id (by simp [Z1j, Zcn])) hb
    obtain ⟨e1, e2, e3, e4, e5⟩ := Zfs h2
    simp only [h1, e1, e4, e5]
  ·rfl
 ·exact ZwQ h
theorem ZrR {H H' : Heap} {xs : List V} (h : Z1y (xs.flatMap Z1j) H H') : Z6m H' xs = Z6m H xs := by
 induction xs with
 | nil => rfl
 | cons x xs ih =>
  simp only [Z6m]
  rw [Zx4 (fun i hi => h i (by simp [hi])), ih (fun i hi => h i (by rw [List.flatMap_cons]; exact List.mem_append_right _ hi))]
theorem ZuB (n : Nat) : Ztb E (Z5D E n) := by
 intro f hp args H v H1 h
 cases n with
 | zero => cases h
 | succ n =>
  unfold Z5D at h
  cases henv : E.env f with
  | some F =>
   simp only [henv] at h
   by_cases hq : args.any Zld = true
   ·rw [if_pos hq] at h
    have ho : E.own f = none := by simpa using (Bool.and_eq_true_iff.1 hp).2
    cases hf : Z6m H args with
    | none => simp [hf, ho] at h
    | some as =>
     simp only [hf, ho] at h
     cases hF : F (Z0r E.rows (E.par f) as) with
     | none => simp [hF] at h
     | some r =>
      simp only [hF] at h
      split at h
      ·rename_i hfl
       simp only [Option.some.injEq, Prod.mk.injEq] at h
       refine ⟨h.2.symm, fun H' hs => ?_⟩
       unfold Z5D
       simp only [henv]
       rw [if_pos hq, ZrR hs, hf]
       simp only [ho, hF]
       rw [if_pos hfl, h.1]
      ·cases h
   rw [if_neg hq] at h
   cases hf : Z2q H args with
   | none => simp [hf] at h
   | some as =>
    have ho : E.own f = none := by simpa using (Bool.and_eq_true_iff.1 hp).2
    simp only [hf, ho] at h
    cases hF : F (Z0r E.rows (E.par f) as) with
    | none => simp [hF] at h
    | some r =>
     simp only [hF, Option.map_some, Option.some.injEq, Prod.mk.injEq] at h
     refine ⟨h.2.symm, fun H' hs => ?_⟩
     unfold Z5D
     simp only [henv]
     rw [if_neg hq, Ziu hs, hf]
     simp only [ho, hF, Option.map_some, h.1]
  | none =>
   have hpf : E.pure f = true := by simpa [henv] using (Bool.and_eq_true_iff.1 hp).1
   simp only [henv, hpf, if_true] at h
   cases hfn : E.func f with
   | none => simp [hfn] at h
   | some fn =>
    simp only [hfn] at h
    cases hf : Z2q H args with
    | none => simp [hf] at h
    | some as =>
     simp only [hf] at h
     cases hbd : Zrk (Z5D E n) n E f fn as [] with
     | none => simp [hbd] at h
     | some rr =>
      obtain ⟨r0, H2⟩ := rr
      simp only [hbd] at h
      cases hft : Zt2 H2 r0 with
      | none => simp [hft] at h
      | some r =>
       simp only [hft, Option.map_some, Option.some.injEq, Prod.mk.injEq] at h
       refine ⟨h.2.symm, fun H' hs => ?_⟩
       unfold Z5D
       simp only [henv, hpf, if_true, hfn]
       rw [Ziu hs, hf]
       simp only [hbd, hft, Option.map_some, h.1]
theorem Zhi (H : Heap) (a b : List Nat) : bump (bump H a) b = bump H (a ++ b) := by
 induction a generalizing H with
 | nil => rfl
 | cons i a ih => simp only [bump, List.cons_append, ih]
theorem ZnG {f : Fk} {H H1 : Heap} {x y : V} (h : Zcj f H x = some (y, H1)) (hn : Z3x y = []) : ∃ ids, (∀ i ∈ ids, i ∈ Zcn x) /\ H1 = bump H ids /\ ∀ H', Z1y (Zcn x) H H' -> Zcj f H' x = some (y, bump H' ids) := by
 cases f with
 | s e sz =>
  simp only [Zcj] at h
  cases hf : Zn8 H x with
  | none => simp [hf] at h
  | some w =>
   simp only [hf, Option.map_some, Option.some.injEq, Prod.mk.injEq] at h
   obtain ⟨rfl, rfl⟩ := h
   exact ⟨Zew x, fun i hi => Ztg hi, rfl, fun H' hs => by simp only [Zcj, Zof hs, hf, Option.map_some]⟩
 | own e sz =>
  exfalso
  simp only [Zcj, Zwy] at h
  split at h
  ·simp only [Option.some.injEq, Prod.mk.injEq] at h
   rw [<- h.1] at hn
   simp [Z3x] at hn
  ·simp only [Option.some.injEq, Prod.mk.injEq] at h
   rw [<- h.1] at hn
   simp [Z3x] at hn
  ·split at h
   ·simp only [Option.some.injEq, Prod.mk.injEq] at h
    rw [<- h.1] at hn
    simp [Z3x] at hn
   ·cases h
  ·cases h
 | keep =>
  simp only [Zcj, Option.some.injEq, Prod.mk.injEq] at h
  obtain ⟨rfl, rfl⟩ := h
  exact ⟨[], by simp, rfl, fun H' _ => rfl⟩
theorem ZuD : ∀ {fl : List Fk} {H H1 : Heap} {xs ys : List V}, ZaI fl H xs = some (ys, H1) -> Z0u ys = [] -> ∃ ids, (∀ i ∈ ids, i ∈ xs.flatMap Zcn) /\ H1 = bump H ids /\ ∀ H', Z1y (xs.flatMap Zcn) H H' -> ZaI fl H' xs = some (ys, bump H' ids) := by
 intro fl
 induction fl with
 | nil =>
  intro H H1 xs ys h hn
  cases xs with
  | nil =>
   simp only [ZaI, Option.some.injEq, Prod.mk.injEq] at h
   obtain ⟨rfl, rfl⟩ := h
   exact ⟨[], by simp, rfl, fun H' _ => rfl⟩
  | cons => simp [ZaI] at h
 | cons f fl ih =>
  intro H H1 xs ys h hn
  cases xs with
  | nil => simp [ZaI] at h
  | cons x xs =>
   simp only [ZaI] at h
   cases h1 : Zcj f H x with
   | none => simp [h1] at h
   | some r =>
    obtain ⟨y, Ha⟩ := r
    simp only [h1] at h
    cases h2 : ZaI fl Ha xs with
    | none => simp [h2] at h
    | some q =>
     obtain ⟨zs, Hb⟩ := q
     simp only [h2, Option.some.injEq, Prod.mk.injEq] at h
     obtain ⟨rfl, rfl⟩ := h
     simp only [Z0u, List.append_eq_nil_iff] at hn
     obtain ⟨i1, a1, rfl, a3⟩ := ZnG h1 hn.1
     obtain ⟨i2, b1, rfl, b3⟩ := ih h2 hn.2
     refine ⟨i1 ++ i2, fun i hi => ?_, Zhi H i1 i2, fun H' hs => ?_⟩
     ·rw [List.flatMap_cons]
      rcases List.mem_append.1 hi with hi | hi
      ·exact List.mem_append_left _ (a1 i hi)
      ·exact List.mem_append_right _ (b1 i hi)
     ·have hs1 : Z1y (Zcn x) H H' := fun i hi => hs i (by rw [List.flatMap_cons]; exact List.mem_append_left _ hi)
      have hs2 : Z1y (xs.flatMap Zcn) (bump H i1) (bump H' i1) := (Z9t _ i1 H).symm.trans (Z1y.trans (fun i hi => hs i (by rw [List.flatMap_cons]; exact List.mem_append_right _ hi)) (Z9t _ i1 H'))
      simp only [ZaI, a3 H' hs1, b3 _ hs2, Zhi]
theorem Zu4 {fl : List Fk} {H H1 : Heap} {x y : V} (h : Zh7 fl H x = some (y, H1)) (hn : Z3x y = []) : ∃ ids, (∀ i ∈ ids, i ∈ Z1j x) /\ H1 = bump H ids /\ ∀ H', Z1y (Z1j x) H H' -> Zh7 fl H' x = some (y, bump H' ids) := by
 unfold Zh7 at h
 split at h
 ·rename_i cs
  cases h1 : ZaI fl H cs with
  | none => simp [h1] at h
  | some r =>
   obtain ⟨ys, Ha⟩ := r
   simp only [h1, Option.map_some, Option.some.injEq, Prod.mk.injEq] at h
   obtain ⟨rfl, rfl⟩ := h
   obtain ⟨ids, a1, a2, a3⟩ := ZuD h1 (by simpa [Z3x] using hn)
   exact ⟨ids, a1, a2, fun H' hs => by simp only [Zh7, a3 H' hs, Option.map_some]⟩
 ·rename_i hne
  have hr : Z1j x = Zcn x := by
   unfold Z1j
   split
   ·rename_i cs; exact absurd rfl (hne cs)
   ·rfl
  split at h
  ·rename_i f
   obtain ⟨ids, a1, a2, a3⟩ := ZnG h hn
   refine ⟨ids, by rw [hr]; exact a1, a2, fun H' hs => ?_⟩
   unfold Zh7
   split
   ·rename_i cs; exact absurd rfl (hne cs)
   ·exact a3 H' (by rw [hr] at hs; exact hs)
  ·cases h
theorem Zuw : ∀ {fa : List (List Fk)} {H H1 : Heap} {xs ys : List V}, Zbi fa H xs = some (ys, H1) -> Z0u ys = [] -> ∃ ids, (∀ i ∈ ids, i ∈ xs.flatMap Z1j) /\ H1 = bump H ids /\ ∀ H', Z1y (xs.flatMap Z1j) H H' -> Zbi fa H' xs = some (ys, bump H' ids) := by
 intro fl
 induction fl with
 | nil =>
  intro H H1 xs ys h hn
  cases xs with
  | nil =>
   simp only [Zbi, Option.some.injEq, Prod.mk.injEq] at h
   obtain ⟨rfl, rfl⟩ := h
   exact ⟨[], by simp, rfl, fun H' _ => rfl⟩
  | cons => simp [Zbi] at h
 | cons f fl ih =>
  intro H H1 xs ys h hn
  cases xs with
  | nil => simp [Zbi] at h
  | cons x xs =>
   simp only [Zbi] at h
   cases h1 : Zh7 f H x with
   | none => simp [h1] at h
   | some r =>
    obtain ⟨y, Ha⟩ := r
    simp only [h1] at h
    cases h2 : Zbi fl Ha xs with
    | none => simp [h2] at h
    | some q =>
     obtain ⟨zs, Hb⟩ := q
     simp only [h2, Option.some.injEq, Prod.mk.injEq] at h
     obtain ⟨rfl, rfl⟩ := h
     simp only [Z0u, List.append_eq_nil_iff] at hn
     obtain ⟨i1, a1, rfl, a3⟩ := Zu4 h1 hn.1
     obtain ⟨i2, b1, rfl, b3⟩ := ih h2 hn.2
     refine ⟨i1 ++ i2, fun i hi => ?_, Zhi H i1 i2, fun H' hs => ?_⟩
     ·rw [List.flatMap_cons]
      rcases List.mem_append.1 hi with hi | hi
      ·exact List.mem_append_left _ (a1 i hi)
      ·exact List.mem_append_right _ (b1 i hi)
     ·have hs1 : Z1y (Z1j x) H H' := fun i hi => hs i (by rw [List.flatMap_cons]; exact List.mem_append_left _ hi)
      have hs2 : Z1y (xs.flatMap Z1j) (bump H i1) (bump H' i1) := (Z9t _ i1 H).symm.trans (Z1y.trans (fun i hi => hs i (by rw [List.flatMap_cons]; exact List.mem_append_right _ hi)) (Z9t _ i1 H'))
      simp only [Zbi, a3 H' hs1, b3 _ hs2, Zhi]
theorem Zv4 {n : Nat} {H H2 : Heap} {todo ids : List Nat} (h : Zgh n [] H todo [] = some (H2, ids)) : todo = [] /\ H2 = H /\ ids = [] := by
 cases n with
 | zero => cases h
 | succ n =>
  cases todo with
  | nil =>
   simp only [Zgh, Option.some.injEq, Prod.mk.injEq] at h
   exact ⟨rfl, h.1.symm, h.2.symm⟩
  | cons i todo =>
   exfalso
   unfold Zgh at h
   simp only [List.contains_nil, Bool.false_eq_true, if_false] at h
   split at h <;> first | (cases h; done) | simp_all
theorem Zuk {hs : ZuE} (hfb : hs.fb = []) {args : List V} {H H1 : Heap} {v : V} (h : Zn0 hs args H = some (v, H1)) :
  ∃ ids nbs, (∀ i ∈ ids, i ∈ args.flatMap Z1j) /\ H1 = bump H ids ++ nbs /\ ∀ H', H'.length = H.length -> Z1y (args.flatMap Z1j) H H' -> Zn0 hs args H' = some (v, bump H' ids ++ nbs) := by
 unfold Zn0 at h
 unfold pack at h
 rw [hfb] at h
 cases hp : Zbi hs.fa H args with
 | none => simp [hp] at h
 | some r =>
  obtain ⟨as, Ha⟩ := r
  simp only [hp] at h
  cases hk : Zgh 1000 [] Ha (List.range 0 ++ Z0u as) [] with
  | none => rw [hk] at h; cases h
  | some q =>
   obtain ⟨H2, ids0⟩ := q
   obtain ⟨hr, rfl, rfl⟩ := Zv4 hk
   simp only [List.range_zero, List.nil_append] at hr
   obtain ⟨ids, a1, rfl, a3⟩ := Zuw hp hr
   simp only [hk] at h
   cases hrun : hs.run (Z94 (([] : List Nat).idxOf ·) as) (Zrm (bump H ids) []) with
   | none => rw [hrun] at h; cases h
   | some rr =>
    obtain ⟨r, H3⟩ := rr
    simp only [hrun, List.length_nil, Nat.zero_le, if_true, Option.some.injEq, Prod.mk.injEq, bump_length] at h
    obtain ⟨rfl, rfl⟩ := h
    refine ⟨ids, H3.map (Z3b (Zf1 [] H.length)), a1, by simp only [Za3, Zyc, bump_length], fun H' hl hs' => ?_⟩
    unfold Zn0 pack
    rw [hfb, a3 H' hs']
    simp only [List.range_zero, List.nil_append, hr, Zgh]
    have hsub : Zrm (bump H' ids) [] = Zrm (bump H ids) [] := rfl
    simp only [hsub, hrun, List.length_nil, Nat.zero_le, if_true, bump_length, hl, Za3, Zyc]
theorem Zv1 (n : Nat) : Ztq E (Z5D E n) := by
 intro f hf args H v H1 h
 cases n with
 | zero => cases h
 | succ n =>
  have hf0 := hf
  unfold ZoO at hf
  simp only [Bool.and_eq_true, Option.isNone_iff_eq_none, Bool.not_eq_true'] at hf
  obtain ⟨⟨h1, h2⟩, h3⟩ := hf
  cases hh : E.hm f [] with
  | none => rw [hh] at h3; cases h3
  | some hs =>
   rw [hh] at h3
   have hfb : hs.fb = [] := by simpa using h3
   have he : ∀ H, Z5D E (n + 1) f args H = Zn0 hs args H := fun H => by
    unfold Z5D
    simp only [h1, h2, Bool.false_eq_true, if_false, hf0, if_true, hh]
   rw [he] at h
   obtain ⟨ids, nbs, a1, a2, a3⟩ := Zuk hfb h
   exact ⟨ids, nbs, a1, a2, fun H' hl hs' => by rw [he]; exact a3 H' hl hs'⟩
theorem Z8W (n : Nat) : Z9V E (Z5D E n) := ⟨ZuB n, Zv1 n⟩
def ZDg (w : World) (b c : Nat) : Prop := ∃ u, w.cell? ⟨b, c, none⟩ = some u
theorem ZvF {σ σ' : Sg} {w w' : World} {cs : List V} {ws : List Value} (h : Zv σ w cs ws) : Zv σ' w' (cs.map Zup) ws := by
 induction cs generalizing ws with
 | nil => cases h.Z0w; exact .nil
 | cons c cs ih =>
  obtain ⟨v, vs, rfl, h1, h2⟩ := h.ZL
  simp only [List.map_cons]
  refine Zv.Z0Q.2 ⟨?_, ih h2⟩
  cases h1 with
  | lit hl _ => exact .lit hl .nil
  | _ => exact .und _ .nil
theorem ZnY (cs : List V) : ZH (cs.map Zup) = true := by
 induction cs with
 | nil => rfl
 | cons c cs ih => cases c <;> simp [Zup, ZH, Z05, ih]
theorem Zuo {B : Nat} {w0 : Start} {σ : Sg} {H : Heap} {w : World} (h : Inv B w0 σ H w) {x y : V} {v : Value} (hr : Zv σ w [x] [v]) (hs : ZoY H x = some y) : Zv (bare (ZDg w)) w [y] [v] /\ Z05 y = true := by
 unfold ZoY at hs
 split at hs
 ·rename_i id i off tot
  split at hs
  ·rename_i hz
   obtain ⟨rfl, rfl⟩ := hz
   split at hs
   ·rename_i b hb
    obtain ⟨b1, b2, b3⟩ := Z8a hb
    split at hs
    ·rename_i cs hrow hxs
     simp only [Option.some.injEq] at hs
     subst hs
     obtain ⟨L, us, m⟩ := h.meet b1 b2
     cases hr with
     | ptr g k1 k2 k3 k4 k5 =>
      rename_i L'
      have hL : L' = L := by
       have := m.box
       rw [k1] at this
       cases this
       rfl
      subst hL
      obtain ⟨n, c, hv⟩ := k3 (m.tot.trans b3)
      have hrep := m.Z93
      rw [hxs] at hrep
      have hus : ∃ ws : List Value, us = [.agg ws.toArray] /\ Zv σ w cs ws /\ ∀ u ∈ ws, u.oneCell' = true := by
       cases hrep with
       | agg q1 q2 q3 => cases q3; exact ⟨_, rfl, q1, q2⟩
      obtain ⟨ws, hus, hcs, hone⟩ := hus
      refine ⟨?_, by simp [Z05, ZH, ZnY]⟩
      have key : Zv (bare (ZDg w)) w [.ept b.esz [.agg (cs.map Zup)] 0 0] [.pointer (some ⟨g, 0 + 0 * b.esz + 0, none⟩)] := by
       refine .ept (us := us) g 0 b.esz 0 0 ?_ ?_ (fun u hu => by rw [m.esz]; exact m.sizes u hu) m.ones ?_ .nil
       ·rw [hus]; exact .agg (ZvF hcs) hone .nil
       ·intro x hx
        simp only [List.mem_singleton] at hx
        subst hx
        simp [fzV, okV, Z05, ZnY]
       ·intro j u hu
        have := m.cell (g := g) (by rw [hv]; rfl) j u hu
        rw [Nat.zero_add]
        exact ⟨⟨u, this⟩, this⟩
      rw [k4]
      simpa using key
    ·cases hs
   ·cases hs
  ·cases hs
 ·have hn := Zgt h hr hs
  refine ⟨?_, hn⟩
  obtain ⟨hI1, hEx1⟩ := h.freeze (Z8b x)
  have := ZjR h hr hs (Z8b x) (fun i hi => hi)
  exact this.bare (fun b c hh => ⟨hI1.cells b c hh, rfl⟩) (by simp [ZH, hn])
theorem Zq6 {B : Nat} {w0 : Start} {σ : Sg} {H : Heap} {w : World} (h : Inv B w0 σ H w) : ∀ {xs ys : List V} {vs : List Value}, Zv σ w xs vs -> Z6m H xs = some ys -> Zv (bare (ZDg w)) w ys vs /\ ZH ys = true := by
 intro xs
 induction xs with
 | nil =>
  intro ys vs hr hs
  cases hr.Z0w
  simp only [Z6m, Option.some.injEq] at hs
  subst hs
  exact ⟨.nil, rfl⟩
 | cons x xs ih =>
  intro ys vs hr hs
  obtain ⟨v, vs', rfl, h1, h2⟩ := hr.ZL
  simp only [Z6m] at hs
  split at hs
  ·rename_i y ys' e1 e2
   simp only [Option.some.injEq] at hs
   subst hs
   obtain ⟨r1, n1⟩ := Zuo h h1 e1
   obtain ⟨r2, n2⟩ := ih h2 e2
   exact ⟨Zv.Z0Q.2 ⟨r1, r2⟩, by simp [ZH, n1, n2]⟩
  ·cases hs
theorem Zqb {σ σ' : Sg} {w w' : World} {cs : List V} {ws : List Value} (h : Zv σ w cs ws) (hl : cs.all Zae = true) : Zv σ' w' cs ws := by
 induction cs generalizing ws with
 | nil => cases h.Z0w; exact .nil
 | cons c cs ih =>
  obtain ⟨v, vs, rfl, h1, h2⟩ := h.ZL
  simp only [List.all_cons, Bool.and_eq_true] at hl
  refine Zv.Z0Q.2 ⟨?_, ih h2 hl.2⟩
  cases h1 with
  | lit hl' _ => exact .lit hl' .nil
  | _ => simp [Zae] at hl
theorem Zuv {σ σ' : Sg} {w w' : World} {x : V} {u : Value} (h : Zv σ w [x] [u]) (hl : Zh2 x = true) : Zv σ' w' [x] [u] := by
 cases h with
 | lit hl' _ => exact .lit hl' .nil
 | agg h1 h2 _ => exact .agg (Zqb h1 (by simpa [Zh2] using hl)) h2 .nil
 | _ => simp [Zh2] at hl
theorem ZuO {σ σ' : Sg} {w w' : World} {cs : List V} {ws : List Value} (h : Zv σ w cs ws) (hl : cs.all Zh2 = true) : Zv σ' w' cs ws := by
 induction cs generalizing ws with
 | nil => cases h.Z0w; exact .nil
 | cons c cs ih =>
  obtain ⟨v, vs, rfl, h1, h2⟩ := h.ZL
  simp only [List.all_cons, Bool.and_eq_true] at hl
  exact Zv.Z0Q.2 ⟨Zuv h1 hl.1, ih h2 hl.2⟩
theorem Zwx {σ σ' : Sg} {w w' : World} {x : V} {u : Value} (h : Zv σ w [x] [u]) (hl : ZmW x = true) : Zv σ' w' [x] [u] := by
 cases h with
 | lit hl' _ => exact .lit hl' .nil
 | agg h1 h2 _ => exact .agg (Zqb h1 (by simpa [ZmW, Zh2] using hl)) h2 .nil
 | tup h1 _ => exact .tup (ZuO h1 (by simpa [ZmW] using hl)) .nil
 | _ => simp [ZmW, Zh2] at hl
theorem ZrD {P : Program} {E : Env} {B : Nat} {w0 : Start} {σ : Sg} {H : Heap} {w : World} {f : FuncId} {args as : List V} {r : V} {vs : List Value} (ts : List TypeId) (hp : ZH (Z0r E.rows ts as) = true -> Zhd P E f (Z0r E.rows ts as) r) (hf : Z6m H args = some as) (hfl : ZmW r = true) (hI : Inv B w0 σ H w) (hg : Z0C E σ w) (hr : Zv σ w args vs) :
  Calls P f vs.toArray w fun e w' => ∃ u σ', e = .returned u /\ Inv B w0 σ' (bump H (args.flatMap Z8b)) w' /\ Ext σ w σ' w' /\ Zv σ' w' [r] [u] := by
 obtain ⟨hI1, hEx1⟩ := hI.freeze (args.flatMap Z8b)
 obtain ⟨r1, n1⟩ := Zq6 hI hr hf
 have hr1 := Z9T E.rows ts r1
 refine (hp (by rw [Z5U]; exact n1) (ZDg w) w vs (fun b c h => h) (hg.bare (fun b c h => ⟨hI.cells b c h, rfl⟩)) hr1).mono ?_
 rintro e w' ⟨u, fz', rfl, hb, hmono, hold, hcells, hru, hnr⟩
 obtain ⟨hI2, hEx2⟩ := hI1.grown (Below.grownBy hb)
 exact ⟨u, _, rfl, hI2, hEx1.trans hEx2, Zwx hru hfl⟩
theorem Ztr (hE : Z15 E) (hP : E.P = P) (hF : Znx P E) : ∀ (n : Nat) (B : Nat) (w0 : Start), Z8h P E B w0 (Z5D E n) := by
 intro n
 induction n with
 | zero => intro B w0 f args H x H' σ w vs h; cases h
 | succ n ih =>
  intro B w0 f args H x H' σ w vs h hI hg hr
  unfold Z5D at h
  cases henv : E.env f with
  | some F =>
   simp only [henv] at h
   by_cases hq : args.any Zld = true
   ·rw [if_pos hq] at h
    cases ho : E.own f with
    | some e => simp [ho] at h
    | none =>
     cases hf : Z6m H args with
     | none => simp [ho, hf] at h
     | some as =>
      simp only [ho, hf] at h
      cases hFa : F (Z0r E.rows (E.par f) as) with
      | none => simp [hFa] at h
      | some r =>
       simp only [hFa] at h
       split at h
       ·rename_i hfl
        simp only [Option.some.injEq, Prod.mk.injEq] at h
        obtain ⟨rfl, rfl⟩ := h
        obtain ⟨h1, h2⟩ := hF.env f F henv
        refine ⟨h1, ZrD (E.par f) (fun hn => ?_) hf hfl hI hg hr⟩
        have h3 := h2 _ r hn hFa
        rw [ho] at h3
        exact h3
       ·cases h
   rw [if_neg hq] at h
   cases hf : Z2q H args with
   | none => simp [hf] at h
   | some as =>
    simp only [hf] at h
    cases hFa : F (Z0r E.rows (E.par f) as) with
    | none =>
     cases ho : E.own f <;> simp [ho, hFa] at h
    | some r =>
     obtain ⟨h1, h2⟩ := hF.env f F henv
     have h3 := h2 _ r (by rw [Z5U]; exact Z72 hI hr hf) hFa
     cases ho : E.own f with
     | none =>
      simp only [ho, hFa, Option.map_some, Option.some.injEq, Prod.mk.injEq] at h
      obtain ⟨rfl, rfl⟩ := h
      rw [ho] at h3
      exact ⟨h1, Znr (E.par f) h3 hf hI hg hr⟩
     | some e =>
      simp only [ho, hFa] at h
      rw [ho] at h3
      split at h
      ·rename_i sz xs hr0
       simp only [Option.some.injEq, Prod.mk.injEq] at h hr0
       obtain ⟨rfl, rfl⟩ := h
       exact ⟨h1, Zrz (E.par f) (h3 sz xs hr0) hf hI hg hr⟩
      ·cases h
  | none =>
   simp only [henv] at h
   split at h
   ·cases hfn : E.func f with
    | none => simp [hfn] at h
    | some fn =>
     simp only [hfn] at h
     cases hf : Z2q H args with
     | none => simp [hf] at h
     | some as =>
      simp only [hf] at h
      cases hbd : Zrk (Z5D E n) n E f fn as [] with
      | none => simp [hbd] at h
      | some rr =>
       obtain ⟨r0, H2⟩ := rr
       simp only [hbd] at h
       cases hft : Zt2 H2 r0 with
       | none => simp [hft] at h
       | some r =>
        simp only [hft, Option.map_some, Option.some.injEq, Prod.mk.injEq] at h
        obtain ⟨rfl, rfl⟩ := h
        have hent : Z9U P f := by
         obtain ⟨hf1, hf2⟩ := hE.func f fn hfn
         rw [hP] at hf1
         refine ⟨fn, hf1, ?_, hf2⟩
         unfold Zrk at hbd
         cases hb : fn.body with
         | none => simp [hb] at hbd
         | some c => rfl
        exact ⟨hent, Znr [] (by simpa [Z0r] using Zx0 hE hP ih (Z8W n) hfn hbd hft) hf hI hg hr⟩
   ·cases hhm : E.hm f (if ZoO E f then [] else Zjo args) with
    | some hs =>
     simp only [hhm] at h
     obtain ⟨h1, h2⟩ := hF.hm f _ hs hhm
     exact ⟨h1, ZxY h2 h hI hg hr⟩
    | none =>
     simp only [hhm] at h
     cases hfn : E.func f with
     | none => simp [hfn] at h
     | some fn =>
      simp only [hfn] at h
      exact Zvw hE hP (ih B w0) (Z8W n) hfn h hI hg hr
end
end Go.Proofs.YtefmbgacbhifdaaGreat.Le
namespace Go.Proofs.YtefmbgacbhifdaaGreat.Le
inductive SV (Ty : Nat -> Type) where
 | lit (v : Value)
 | si (k : IntKind) (a : Int)
 | sb (b : Bool)
 | ss (s : ByteArray)
 | agg (cs : List (SV Ty))
 | tup (vs : List (SV Ty))
 | nil (e : Nat)
 | sl (t : Nat) (xs : List (Ty t))
 | slt (t : Nat) (xs : List (Ty t))
 | all (id n : Nat)
 | lsl (id off len tot : Nat)
 | ptr (id i off tot : Nat)
 | ept (t : Nat) (xs : List (Ty t)) (i off : Nat)
 | fn (f : FuncId) (first caps : List (SV Ty))
 | raw (v : V)
 | no
 | und
instance (Ty : Nat -> Type) : Inhabited (SV Ty) := ⟨.und⟩
structure Z9c where
 Ty : Nat -> Type
 esz : Nat -> Nat
 enc : (t : Nat) -> Ty t -> V
 encS : (t : Nat) -> Ty t -> SV Ty
 Zpw : (t : Nat) -> SV Ty -> Option (Ty t)
 keys : List Nat
section
variable (U : Z9c)
mutual
def toV : SV U.Ty -> V
 | .lit v => .lit v
 | .si k a => .lit (.int k a)
 | .sb b => .lit (.bool b)
 | .ss s => .lit (.string s)
 | .agg cs => .agg (ZY cs)
 | .tup cs => .tup (ZY cs)
 | .nil e => .sl true e []
 | .sl t xs => .sl false (U.esz t) (xs.map (U.enc t))
 | .slt t xs => .slt false (U.esz t) (xs.map (U.enc t))
 | .all id n => .lsl id 0 n n
 | .lsl id off len tot => .lsl id off len tot
 | .ptr id i off tot => .ptr id i off tot
 | .ept t xs i off => .ept (U.esz t) (xs.map (U.enc t)) i off
 | .fn f a b => .fn f (ZY a) (ZY b)
 | .raw v => v
 | .no => .no
 | .und => .und
def ZY : List (SV U.Ty) -> List V
 | [] => []
 | x :: xs => toV x :: ZY xs
end
inductive Zvl (Ty : Nat -> Type) where
 | var (elem : TypeId) (esz : Nat) (x : SV Ty)
 | row (t : Nat) (xs : List (Ty t)) (fl : Option Nat)
 | dead
 | fvar (elem : TypeId) (esz : Nat) (x : SV Ty)
def Zvl.floor {Ty : Nat -> Type} (fl : Option Nat) : Nat := fl.getD 0
def Z0F : Zvl U.Ty -> Box
 | .var e n x => ZK false false e n [toV U x]
 | .row t xs fl => { live := true, row := true, Zco := false, elem := t, esz := U.esz t, xs := xs.map (U.enc t), floor := fl.getD 0 }
 | .dead => Zdq
 | .fvar e n x => { ZK false false e n [toV U x] with floor := 1 }
abbrev ZE := List (Zvl U.Ty)
def toH (H : ZE U) : Heap := H.map (Z0F U)
structure SSt where
 s : List (SV U.Ty)
 H : ZE U
def Z45 (st : SSt U) : St := ⟨ZY U st.s, toH U st.H⟩
inductive Tr (L : Type) where
 | leaf (l : L)
 | br (c : Bool) (a b : Tr L)
 | bind (t : Nat) (o : Option (U.Ty t)) (k : U.Ty t -> Tr L)
 | chk (c : Bool) (a : Tr L)
 | fail
variable {U}
def Tr.andThen {L M : Type} : Tr U L -> (L -> Tr U M) -> Tr U M
 | .leaf l, f => f l
 | .br c a b, f => .br c (a.andThen f) (b.andThen f)
 | .bind t o k, f => .bind t o fun x => (k x).andThen f
 | .chk c a, f => .chk c (a.andThen f)
 | .fail, _ => .fail
def Tr.map {L M : Type} (g : L -> M) : Tr U L -> Tr U M
 | .leaf l => .leaf (g l)
 | .br c a b => .br c (a.map g) (b.map g)
 | .bind t o k => .bind t o fun x => (k x).map g
 | .chk c a => .chk c (a.map g)
 | .fail => .fail
def Tr.den {L R : Type} (J : L -> Option R) : Tr U L -> Option R
 | .leaf l => J l
 | .br c a b => cond c (a.den J) (b.den J)
 | .bind t o k => o.bind fun x => (k x).den J
 | .chk c a => cond c (a.den J) none
 | .fail => none
def Tr.Zz {L : Type} : Tr U L -> L -> Prop
 | .leaf l, x => l = x
 | .br c a b, x => (c = true /\ a.Zz x) \/ (c = false /\ b.Zz x)
 | .bind t o k, x => ∃ a, o = some a /\ (k a).Zz x
 | .chk c a, x => c = true /\ a.Zz x
 | .fail, _ => False
def Tr.opt {L : Type} : Option L -> Tr U L
 | some l => .leaf l
 | none => .fail
def Tr.when {L : Type} (p : Prop) [Decidable p] (a : Tr U L) : Tr U L := if p then a else .fail
variable (U)
def ZCH : V -> SV U.Ty
 | .lit v => .lit v
 | .sl true e [] => .nil e
 | .no => .no
 | .und => .und
 | v => .raw v
def ofV : V -> SV U.Ty
 | .agg cs => .agg (cs.map (ZCH U))
 | v => ZCH U v
variable {U}
def cellsS : SV U.Ty -> List (SV U.Ty)
 | .agg cs => cs
 | v => [v]
def okS : SV U.Ty -> Bool
 | .und | .no | .tup _ => false
 | .raw (.agg _) => false
 | .raw v => okV v
 | _ => true
def ZDn : SV U.Ty -> Option Value
 | .lit v => some v
 | .si k a => some (.int k a)
 | .sb b => some (.bool b)
 | .ss s => some (.string s)
 | _ => none
def asInt : SV U.Ty -> Option (IntKind × Int)
 | .lit (.int k a) => some (k, a)
 | .si k a => some (k, a)
 | _ => none
def ZfF : SV U.Ty -> Option ByteArray
 | .lit (.string s) => some s
 | .ss s => some s
 | _ => none
def asBool : SV U.Ty -> Option Bool
 | .lit (.bool b) => some b
 | .sb b => some b
 | _ => none
def evS (E : Env) (s : List (SV U.Ty)) : Operand -> SV U.Ty
 | .tmp t => s.getD t .und
 | .const v => ofV U (Zbf v)
 | .func f => .fn f [] []
 | .global g => match E.Zcy g with | some r => .raw (.ept r.length [.agg r] 0 0) | none => .und
def ZzP (s : List (SV U.Ty)) (d : Option Tmp) (v : SV U.Ty) : List (SV U.Ty) := match d with | some t => s.set t v | none => s
def ZeV (H : ZE U) (k : Nat) (b : Zvl U.Ty) : ZE U := if k < H.length then H.set k b else H ++ [b]
def rowAt {L : Type} (H : ZE U) (id tot : Nat) (k : (t : Nat) -> List (U.Ty t) -> Option Nat -> Tr U L) : Tr U L :=
 match H[id]? with
 | some (.row t xs fl) => .chk (xs.length == tot) (k t xs fl)
 | _ => .fail
def ZkT (H : ZE U) : SV U.Ty -> Tr U (SV U.Ty)
 | .lit v => .leaf (.lit v)
 | .si k a => .leaf (.si k a)
 | .sb b => .leaf (.sb b)
 | .ss s => .leaf (.ss s)
 | .nil e => .leaf (.nil e)
 | .sl t xs => .leaf (.sl t xs)
 | .slt t xs => .leaf (.sl t xs)
 | .all id n => rowAt H id n fun t xs _ => .leaf (.sl t xs)
 | .lsl id off len tot => rowAt H id tot fun t xs _ => .chk (decide (off + len <= tot)) (.leaf (.sl t ((xs.drop off).take len)))
 | .fn f [] [] => .leaf (.fn f [] [])
 | _ => .fail
def ZrX (H : ZE U) : List (SV U.Ty) -> Tr U (List (SV U.Ty))
 | [] => .leaf []
 | v :: vs => (ZkT H v).andThen fun w => (ZrX H vs).andThen fun ws => .leaf (w :: ws)
def ZzI (H : ZE U) : SV U.Ty -> Tr U (SV U.Ty)
 | .agg cs => (ZrX H cs).andThen fun ws => .leaf (.agg ws)
 | v => ZkT H v
def ZbB (H : ZE U) : List (SV U.Ty) -> Tr U (List (SV U.Ty))
 | [] => .leaf []
 | v :: vs => (ZzI H v).andThen fun w => (ZbB H vs).andThen fun ws => .leaf (w :: ws)
def Zmq : SV U.Ty -> List Nat
 | .lsl id _ _ _ => [id]
 | .all id _ => [id]
 | .raw v => Zew v
 | _ => []
def Zki : SV U.Ty -> List Nat
 | .agg cs => cs.flatMap Zmq
 | .raw v => Z8b v
 | v => Zmq v
def Zo4 : Zvl U.Ty -> Zvl U.Ty
 | .row t xs _ => .row t xs (some xs.length)
 | b => b
def ZoG (H : ZE U) : List Nat -> ZE U
 | [] => H
 | i :: is => ZoG (H.modify i Zo4) is
def ZsK (cs : List (SV U.Ty)) (off n : Nat) (isAgg : Bool) : Option (SV U.Ty) :=
 if isAgg then (if off + n <= cs.length then some (.agg ((cs.drop off).take n)) else none) else cs[off]?
def loadT (E : Env) (H : ZE U) (t : TypeId) (a : SV U.Ty) : Tr U (SV U.Ty) :=
 match E.ti t with
 | none => .fail
 | some i =>
  match a with
  | .ept et xs j off => .bind et xs[j]? fun x => .opt (ZsK (cellsS (U.encS et x)) off i.size i.isAgg)
  | .ptr id j off tot => match H[id]? with
   | some (.var _ _ x) => .when (j = 0 /\ tot = 1 /\ okS x = true) (.opt (ZsK (cellsS x) off i.size i.isAgg))
   | some (.row et xs _) => .chk (xs.length == tot) (.bind et xs[j]? fun x => .opt (ZsK (cellsS (U.encS et x)) off i.size i.isAgg))
   | _ => .fail
  | .raw (.ept _ [.agg cs] 0 off) => .opt ((partOf cs off i.size i.isAgg).map (ofV U))
  | _ => .fail
def Zpk (x : SV U.Ty) (off : Nat) (cs : List (SV U.Ty)) : Option (SV U.Ty) :=
 match x with
 | .agg ds => if off + cs.length <= ds.length then some (.agg (ds.take off ++ cs ++ ds.drop (off + cs.length))) else none
 | .raw _ => none
 | _ => match off, cs with | 0, [c] => some c | _, _ => none
def storeT (E : Env) (H : ZE U) (t : TypeId) (a v : SV U.Ty) : Tr U (ZE U) :=
 match E.ti t with
 | none => .fail
 | some i =>
  match a with
  | .ptr id j off tot => match H[id]? with
   | some (.var e n x) => .when ((j = 0 /\ tot = 1) /\ (cellsS v).length = i.size /\ okS v = true /\ okS x = true)
     (match Zpk x off (cellsS v) with
      | some x' => .when (okS x' = true) (.leaf (H.set id (.var e n x')))
      | none => .fail)
   | some (.row et xs fl) => .when ((cellsS v).length = i.size /\ okS v = true /\ (Zki v).contains id = false)
     (.chk (xs.length == tot && decide (fl.getD 0 <= j)) (.bind et xs[j]? fun x => (ZzI H v).andThen fun v' =>
      match Zpk (U.encS et x) off (cellsS v') with
      | some x' => match U.Zpw et x' with
       | some y => .when (okS v' = true /\ okS x' = true) (.leaf ((ZoG H (Zki v)).set id (.row et (xs.set j y) fl)))
       | none => .fail
      | none => .fail))
   | _ => .fail
  | _ => .fail
end
end Go.Proofs.YtefmbgacbhifdaaGreat.Le
namespace Go.Proofs.YtefmbgacbhifdaaGreat.Le
section
variable {U : Z9c}
def intT (op : BinOp) (k : IntKind) (a b : Int) (lit : Bool) : Tr U (SV U.Ty) :=
 match op with
 | .add => .leaf (.si k (k.wrap (a + b)))
 | .sub => .leaf (.si k (k.wrap (a - b)))
 | .mul => .leaf (.si k (k.wrap (a * b)))
 | .quo => if lit then (if b = 0 then .fail else .leaf (.si k (k.wrap (a.tdiv b)))) else .chk (b != 0) (.leaf (.si k (k.wrap (a.tdiv b))))
 | .rem => if lit then (if b = 0 then .fail else .leaf (.si k (a.tmod b))) else .chk (b != 0) (.leaf (.si k (a.tmod b)))
 | .and | .or | .xor | .andNot => .leaf (.si k (bits op k a b))
 | .eql => .leaf (.sb (a == b))
 | .neq => .leaf (.sb (a != b))
 | .lss => .leaf (.sb (decide (a < b)))
 | .leq => .leaf (.sb (decide (a <= b)))
 | .gtr => .leaf (.sb (decide (a > b)))
 | .geq => .leaf (.sb (decide (a >= b)))
 | _ => .fail
def ZzX (op : BinOp) (k : IntKind) (a b : Int) : Option Int :=
 match op with
 | .shl => some (k.wrap (a * 2 ^ min b.toNat k.bits))
 | .shr => some (a.fdiv (2 ^ min b.toNat k.bits))
 | _ => none
def Ztk (op : BinOp) (k : IntKind) (a b : Int) (lit : Bool) : Tr U (SV U.Ty) :=
 match ZzX op k a b with
 | none => .fail
 | some r => if lit then (if b < 0 then .fail else .leaf (.si k r)) else .chk (decide (0 <= b)) (.leaf (.si k r))
def strT (op : BinOp) (x y : ByteArray) : Tr U (SV U.Ty) :=
 match op with
 | .add => .chk (decide (x.size + y.size <= maxLen)) (.leaf (.ss (x ++ y)))
 | .eql => .leaf (.sb (x.toList == y.toList))
 | .neq => .leaf (.sb !(x.toList == y.toList))
 | .lss => .leaf (.sb (Op.bytesLess x.toList y.toList))
 | .leq => .leaf (.sb (Op.bytesLess x.toList y.toList || x.toList == y.toList))
 | .gtr => .leaf (.sb !(Op.bytesLess x.toList y.toList || x.toList == y.toList))
 | .geq => .leaf (.sb !(Op.bytesLess x.toList y.toList))
 | _ => .fail
def Z5s : List FK -> List (SV U.Ty) -> List (SV U.Ty) -> Option Bool
 | [], [], [] => some true
 | .b :: ks, x :: xs, y :: ys => match asBool x, asBool y, Z5s ks xs ys with | some a, some b, some r => some (a == b && r) | _, _, _ => none
 | .i k :: ks, x :: xs, y :: ys => match asInt x, asInt y, Z5s ks xs ys with
  | some (k1, a), some (k2, b), some r => if k1 = k /\ k2 = k then some (a == b && r) else none
  | _, _, _ => none
 | .s :: ks, x :: xs, y :: ys => match ZfF x, ZfF y, Z5s ks xs ys with | some a, some b, some r => some (a == b && r) | _, _, _ => none
 | _, _, _ => none
def isLit : SV U.Ty -> Bool | .lit _ => true | _ => false
def binT (E : Env) (op : BinOp) (t : TypeId) (x y : SV U.Ty) : Tr U (SV U.Ty) :=
 match x, y with
 | .agg xs, .agg ys => match E.flat t with
  | some ks => match Z5s ks xs ys with
   | some b => (match op with | .eql => .leaf (.sb b) | .neq => .leaf (.sb !b) | _ => .fail)
   | none => .fail
  | none => .fail
 | x, y => match asInt x, asInt y with
  | some (k, a), some (j, b) => (match op with
   | .shl => Ztk .shl k a b (isLit y)
   | .shr => Ztk .shr k a b (isLit y)
   | op => if k = j then intT op k a b (isLit y) else .fail)
  | _, _ => match ZfF x, ZfF y with
   | some a, some b => strT op a b
   | _, _ => match asBool x, asBool y with
    | some a, some b => if E.isBool t then (match op with | .eql => .leaf (.sb (a == b)) | .neq => .leaf (.sb (!(a == b))) | _ => .fail) else .fail
    | _, _ => .fail
def unT (op : UnOp) (x : SV U.Ty) : Tr U (SV U.Ty) :=
 match op, asInt x, asBool x with
 | .neg, some (k, n), _ => .leaf (.si k (k.wrap (0 - n)))
 | .xor, some (k, n), _ => .leaf (.si k (bits .xor k (if k.signed then -1 else k.max) n))
 | .not, _, some b => .leaf (.sb !b)
 | _, _, _ => .fail
def mmT (isMax : Bool) (k : IntKind) : Int -> List (SV U.Ty) -> Option Int
 | a, [] => some a
 | a, x :: rest => match asInt x with
  | some (j, b) => if k = j then mmT isMax k (if isMax then (if b > a then b else a) else (if b < a then b else a)) rest else none
  | none => none
def Zop (isMax : Bool) : List (SV U.Ty) -> Tr U (SV U.Ty)
 | x :: rest => match asInt x with
  | some (k, a) => (match mmT isMax k a rest with | some r => .leaf (.si k r) | none => .fail)
  | none => .fail
 | [] => .fail
def ZpF (cs : List (SV U.Ty)) : List (Nat × SV U.Ty) -> (Nat -> Option (Nat × Nat)) -> Option (List (SV U.Ty))
 | [], _ => some cs
 | (i, v) :: rest, place =>
  match place i with
  | none => none
  | some (off, size) => if (cellsS v).length == size && decide (off + size <= cs.length) && okS v then ZpF (cs.take off ++ cellsS v ++ cs.drop (off + size)) rest place else none
def ZxL (E : Env) (t : TypeId) (parts : List (Nat × SV U.Ty)) : Option (SV U.Ty) :=
 match E.ti t with
 | some i => match i.zero with
  | some z =>
   if okV z then
    match i.ty with
    | .struct fs => if fs.all fun x => (E.ti x.2).isSome then (ZpF (cellsS (ofV U z)) parts (placesOf E fs)).map .agg else none
    | .array _ e => match E.ti e with
     | some ei => (ZpF (cellsS (ofV U z)) parts (fun i => some (i * ei.size, ei.size))).map .agg
     | none => none
    | _ => none
   else none
  | none => none
 | none => none
def Zn6 (e : Nat) : List (SV U.Ty) -> Option (List (U.Ty e))
 | [] => some []
 | v :: vs => match okS v, U.Zpw e v, Zn6 e vs with | true, some a, some as => some (a :: as) | _, _, _ => none
def ZeY (E : Env) (k : Nat) (H : ZE U) (t : TypeId) (n : Nat) (parts : List (Nat × SV U.Ty)) : Tr U (SV U.Ty × ZE U) :=
 match E.ti t with
 | some ⟨.slice e, _, _, _⟩ => match E.ti e with
  | some ei => match ei.zero with
   | some z => (ZbB H (parts.map (·.2))).andThen fun vs => match Zn6 e vs with
    | some ys => .when ((n * ei.size <= 16777216 /\ 0 < ei.size /\ z.cells.length = ei.size /\ okV z = true) /\ parts.map (·.1) = List.range n /\ vs.all (fun v => (cellsS v).length == ei.size) = true /\ U.esz e = ei.size)
      (.leaf (.all k n, ZeV (ZoG H ((parts.map (·.2)).flatMap Zki)) k (.row e ys none)))
    | none => .fail
   | none => .fail
  | none => .fail
 | _ => .fail
def ZhF (E : Env) (s : TypeId) (x : SV U.Ty) (f : Nat) : Option (SV U.Ty) :=
 match E.ti s with
 | some ⟨.struct fs, _, _, _⟩ => match fs[f]? with
  | some (o, t) => match E.size t with
   | some sz => if sz = 0 then none else match x with
    | .ptr id j off tot => some (.ptr id j (off + o) tot)
    | .ept d xs j off => some (.ept d xs j (off + o))
    | .raw (.ept d xs j off) => some (.raw (.ept d xs j (off + o)))
    | _ => none
   | none => none
  | none => none
 | _ => none
def Zw1 (E : Env) (s : TypeId) (x : SV U.Ty) (f : Nat) : Option (SV U.Ty) :=
 match E.ti s, x with
 | some ⟨.struct fs, _, _, _⟩, .agg cs => match fs[f]? with
  | some (o, t) => match E.ti t with | some i => ZsK cs o i.size i.isAgg | none => none
  | none => none
 | _, _ => none
def Ztj (H : ZE U) (x : SV U.Ty) (e : Nat) : Tr U (List (U.Ty e)) :=
 let go (t : Nat) (xs : List (U.Ty t)) : Tr U (List (U.Ty e)) := if h : t = e then .leaf (h ▸ xs) else .fail
 match x with
 | .nil _ => .leaf []
 | .sl t xs => go t xs
 | .slt t xs => go t xs
 | .all id n => rowAt H id n fun t xs _ => go t xs
 | .lsl id off len tot => rowAt H id tot fun t xs _ => .chk (decide (off + len <= tot)) (go t ((xs.drop off).take len))
 | _ => .fail
def ZrT (E : Env) (k : Nat) (H : ZE U) (t u : TypeId) (s x : SV U.Ty) : Tr U (SV U.Ty × ZE U) :=
 match E.ti t with
 | some ⟨.slice e, _, _, _⟩ => match E.ti e with
  | some ei => .when (u = t /\ 0 < ei.size /\ ei.zok = true /\ U.esz e = ei.size) ((Ztj H x e).andThen fun ys =>
    match s with
    | .all id n => rowAt H id n fun t' xs fl => if h : t' = e then
      .chk (decide ((n + ys.length) * ei.bytes <= lim) && decide (n + ys.length <= maxLen))
       (.leaf (.all id ((h ▸ xs : List (U.Ty e)) ++ ys).length, H.set id (.row e ((h ▸ xs : List (U.Ty e)) ++ ys) fl)))
     else .fail
    | .nil _ => .chk (decide (ys.length * ei.bytes <= lim) && decide (ys.length <= maxLen)) (.leaf (.all k ys.length, ZeV H k (.row e ys none)))
    | .slt t' xs => if h : t' = e then
      .chk (decide ((xs.length + ys.length) * ei.bytes <= lim) && decide (xs.length + ys.length <= maxLen))
       (.br ys.isEmpty (.leaf (.slt t' xs, H)) (.leaf (.all k ((h ▸ xs : List (U.Ty e)) ++ ys).length, ZeV H k (.row e ((h ▸ xs : List (U.Ty e)) ++ ys) none))))
     else .fail
    | _ => .fail)
  | none => .fail
 | _ => .fail
def ZBf (E : Env) (H : ZE U) (t u : TypeId) (d x : SV U.Ty) : Tr U (SV U.Ty × ZE U) :=
 match E.ti t with
 | some ⟨.slice e, _, _, _⟩ => match E.ti e with
  | some ei => .when (U.esz e = ei.size) ((Ztj H x e).andThen fun ys =>
    match d with
    | .all id n => rowAt H id n fun t' xs fl => if h : t' = e then
      .when (fl.getD 0 = 0) (.leaf (.si .i64 (min ys.length xs.length : Nat), H.set id (.row e (ys.take xs.length ++ (h ▸ xs : List (U.Ty e)).drop ys.length) fl)))
     else .fail
    | _ => .fail)
  | none => .fail
 | _ => .fail
def lenT (x : SV U.Ty) : Option Nat :=
 match x with
 | .nil _ => some 0
 | .sl _ xs => some xs.length
 | .slt _ xs => some xs.length
 | .lit (.string s) => some s.size
 | .ss s => some s.size
 | _ => none
def Zlw {L : Type} (H : ZE U) (x : SV U.Ty) (k : Nat -> Tr U L) : Tr U L :=
 match x with
 | .all id n => rowAt H id n fun _ _ _ => k n
 | .lsl id _ len tot => rowAt H id tot fun _ _ _ => k len
 | x => match lenT x with | some n => k n | none => .fail
def ZkK (x : SV U.Ty) : Bool := (ZfF x).isSome
def ZoD (E : Env) (t : TypeId) (x : SV U.Ty) : Bool :=
 if ZkK x then E.isStr t else match E.ti t with | some ⟨.slice _, _, _, _⟩ => true | _ => false
def Zrg {L : Type} (x : Option (SV U.Ty)) (hi dflt : Nat) (k : Nat -> Tr U L) : Tr U L :=
 match x with
 | none => k dflt
 | some v => match asInt v with
  | some (_, n) => .chk (decide (0 <= n /\ n <= hi)) (k n.toNat)
  | none => .fail
def ZvJ (E : Env) (H : ZE U) (x : SV U.Ty) (n : Nat) : Bool :=
 match x with
 | .nil _ => true
 | .sl t _ => U.esz t == n
 | .slt t _ => U.esz t == n
 | .all id _ | .lsl id _ _ _ => match H[id]? with | some (.row t _ _) => U.esz t == n | _ => false
 | _ => false
def Zii (E : Env) (H : ZE U) (t : TypeId) (x : SV U.Ty) : Bool :=
 if ZkK x then E.isStr t else match E.ti t with
  | some ⟨.slice e, _, _, _⟩ => match E.ti e with | some ei => ZvJ E H x ei.size | none => false
  | _ => false
def sliceT (E : Env) (H : ZE U) (t : TypeId) (x : SV U.Ty) (lo hi mx : Option (SV U.Ty)) : Tr U (SV U.Ty × ZE U) :=
 if Zii E H t x then
  Zlw H x fun n => Zrg hi n n fun h => Zrg lo h 0 fun l =>
   match mx with
   | some m => (match hi with
    | none => .fail
    | some _ => Zrg (some m) n n fun k => .chk (k == h)
     (match x with
      | .sl e xs => .leaf (.slt e ((xs.drop l).take (h - l)), H)
      | .slt e xs => .leaf (.slt e ((xs.drop l).take (h - l)), H)
      | .all id n => rowAt H id n fun e xs _ => .leaf (.slt e ((xs.drop l).take (h - l)), ZoG H [id])
      | _ => .fail))
   | none => match x with
    | .nil e => .leaf (.nil e, H)
    | .sl e xs => .leaf (.sl e ((xs.drop l).take (h - l)), H)
    | .slt e xs => .leaf (.sl e ((xs.drop l).take (h - l)), H)
    | .all id n => (match lo, hi with
     | none, none => .leaf (.all id n, H)
     | _, _ => .leaf (.lsl id l (h - l) n, H))
    | .lsl id off _ tot => .leaf (.lsl id (off + l) (h - l) tot, H)
    | x => match ZfF x with
     | some s => .leaf (.ss (s.extract l h), H)
     | none => .fail
 else .fail
def Zl8 (x : Option (SV U.Ty)) (n : Nat) : Option Nat := match x with
 | none => some n
 | some (.lit (.int _ h)) => if 0 <= h /\ h <= n then some h.toNat else none
 | _ => none
def ZrP (E : Env) (H : ZE U) (n e : Nat) (x : SV U.Ty) (lo hi mx : Option (SV U.Ty)) : Tr U (SV U.Ty × ZE U) :=
 match x, lo, Zl8 hi n, mx with
 | .ptr id i off tot, none, some m, none => match H[id]? with
  | some (.var e' k (.agg cs)) => match Zn6 e cs with
   | some ys => .when ((i = 0 /\ off = 0 /\ tot = 1 /\ cs.length = n /\ n <= maxLen) /\ E.size e = some 1 /\ U.esz e = 1 /\ cs.all (fun c => (ZDn c).isSome) = true) (.leaf (.sl e (ys.take m), H.set id (.fvar e' k (.agg cs))))
   | none => .fail
  | _ => .fail
 | _, _, _, _ => .fail
def Zz6 {L : Type} {t : Nat} (xs : List (U.Ty t)) : Nat -> Nat -> (List Value -> Tr U L) -> Tr U L
 | _, 0, k => k []
 | i, n + 1, k => .bind t xs[i]? fun x => match ZDn (U.encS t x) with | some v => Zz6 xs (i + 1) n fun vs => k (v :: vs) | none => .fail
def arrT (E : Env) (t : TypeId) (x : SV U.Ty) : Tr U (SV U.Ty) :=
 match E.ti t, x with
 | some ⟨.array n e, _, _, _⟩, .sl t' xs => .when (E.size e = some 1 /\ U.esz t' = 1 /\ 0 < n) (Zz6 xs 0 n fun vs => .leaf (.raw (.ept n [.agg (vs.map .lit)] 0 0)))
 | _, _ => .fail
def Zim {L : Type} (n : Int) (lit : Bool) (len : Nat) (k : Nat -> Tr U L) : Tr U L :=
 if lit then (if 0 <= n /\ n < len then k n.toNat else .fail)
 else (List.range len).foldr (fun (i : Nat) rest => .br (n == (i : Int)) (k i) rest) .fail
def Zie (E : Env) (H : ZE U) (t : TypeId) (x i : SV U.Ty) : Tr U (SV U.Ty) :=
 match asInt i, E.ti t with
 | some (_, n), some ti =>
  match ti.ty with
  | .slice el => (match x with
   | .sl et xs => .when (E.size el = some (U.esz et)) (.chk (decide (0 <= n /\ n < xs.length)) (.leaf (.ept et xs n.toNat 0)))
   | .slt et xs => .when (E.size el = some (U.esz et)) (.chk (decide (0 <= n /\ n < xs.length)) (.leaf (.ept et xs n.toNat 0)))
   | .all id m => rowAt H id m fun et xs _ => .when (E.size el = some (U.esz et)) (.chk (decide (0 <= n /\ n < m)) (.leaf (.ptr id n.toNat 0 m)))
   | .lsl id off len tot => rowAt H id tot fun et xs _ => .when (E.size el = some (U.esz et)) (.chk (decide (0 <= n /\ n < len)) (.leaf (.ptr id (off + n.toNat) 0 tot)))
   | _ => .fail)
  | .array len e => (match E.size e with
   | none => .fail
   | some sz => match x with
    | .ptr id j off tot => Zim n (isLit i) len fun m => .leaf (.ptr id j (off + m * sz) tot)
    | .ept d xs j off => Zim n (isLit i) len fun m => .leaf (.ept d xs j (off + m * sz))
    | .raw (.ept d xs j off) => Zim n (isLit i) len fun m => .leaf (.raw (.ept d xs j (off + m * sz)))
    | _ => .fail)
  | _ => .fail
 | _, _ => .fail
def Zxo (E : Env) (t : TypeId) (x i : SV U.Ty) : Tr U (SV U.Ty) :=
 match asInt i with
 | some (_, n) =>
  match E.ti t, x with
  | some ⟨.array len e, _, _, _⟩, .agg cs => match E.ti e with
   | some ei => Zim n (isLit i) len fun m => .opt (ZsK cs (m * ei.size) ei.size ei.isAgg)
   | none => .fail
  | some ⟨.scalar, _, _, _⟩, x => match ZfF x with
   | some s => if E.isStr t then .chk (decide (0 <= n /\ n < s.size)) (.leaf (.si .u8 (s.get! n.toNat).toNat)) else .fail
   | none => .fail
  | _, _ => .fail
 | none => .fail
def ZdB (U : Z9c) (t : Nat) (xs : List (U.Ty t)) : Bool := match bytesOf (xs.map (U.enc t)) with | some bs => decide (bs.length <= maxLen) | none => false
def strOf (U : Z9c) (t : Nat) (xs : List (U.Ty t)) : ByteArray := ⟨((bytesOf (xs.map (U.enc t))).getD []).toArray⟩
def Zut (t : Nat) (xs : List (U.Ty t)) : Tr U (SV U.Ty) := .when (U.esz t = 1) (.chk (ZdB U t xs) (.leaf (.ss (strOf U t xs))))
def ZwE (E : Env) (H : ZE U) (src dst : TypeId) (x : SV U.Ty) : Tr U (SV U.Ty) :=
 .when ((E.isStr dst && E.isBytes src) = true) (match x with
  | .nil _ => .leaf (.ss ⟨#[]⟩)
  | .sl t xs => Zut t xs
  | .slt t xs => Zut t xs
  | .all id n => rowAt H id n fun t xs _ => Zut t xs
  | .lsl id off len tot => rowAt H id tot fun t xs _ => .chk (decide (off + len <= tot)) (Zut t ((xs.drop off).take len))
  | _ => .fail)
def ZzY (E : Env) (H : ZE U) (src dst : TypeId) (x : SV U.Ty) : Tr U (SV U.Ty) :=
 match asInt x with
 | some (_, n) => (match E.kind dst with
  | some k => if (E.ti src).isSome then .leaf (.si k (k.wrap n)) else .fail
  | none => .fail)
 | none => match ZfF x with
  | some s => if E.isStr src && E.isStr dst then .leaf (.ss s) else .fail
  | none => ZwE E H src dst x
def Zz8 (U : Z9c) (e : Nat) (st : ByteArray) : Bool := st.data.toList.all fun b => (U.Zpw e (.si .u8 b.toNat)).isSome
def Z2j (U : Z9c) (e : Nat) (st : ByteArray) : List (U.Ty e) := st.data.toList.filterMap fun b => U.Zpw e (.si .u8 b.toNat)
def ZxN (E : Env) (k : Nat) (H : ZE U) (dst : TypeId) (x : SV U.Ty) : Tr U (SV U.Ty × ZE U) :=
 match ZfF x, E.ti dst with
 | some st, some ⟨.slice e, _, _, _⟩ => .when (E.size e = some 1 /\ U.esz e = 1) (.chk (Zz8 U e st) (.leaf (.all k (Z2j U e st).length, ZeV H k (.row e (Z2j U e st) none))))
 | _, _ => .fail
abbrev Mdl (U : Z9c) := FuncId -> List (SV U.Ty) -> ZE U -> Tr U (SV U.Ty × ZE U)
def ZyN (x : SV U.Ty) : Option (Int × Bool) := match x with | .lit (.int _ n) => some (n, true) | .si _ n => some (n, false) | _ => none
def Zsa (H : ZE U) (T : Tr U (SV U.Ty)) : Tr U (SV U.Ty × ZE U) := T.andThen fun v => .leaf (v, H)
def ZAX (E : Env) (M : Mdl U) (k : Nat) (H : ZE U) (s : List (SV U.Ty)) (c : Call) : Tr U (SV U.Ty × ZE U) :=
 match c.callee with
 | .builtin b => (match b, c.args.toList.map (evS E s), c.argTypes.toList with
  | .len, [x], [t] => if ZoD E t x then Zlw H x fun n => .leaf (.si .i64 n, H) else .fail
  | .append, [a, x], [t, u] => ZrT E k H t u a x
  | .copy, [d, x], [t, u] => ZBf E H t u d x
  | .min, args, _ => Zsa H (Zop false args)
  | .max, args, _ => Zsa H (Zop true args)
  | _, _, _ => .fail)
 | .value f => (match evS E s f with
  | .fn g first caps => M g (first ++ c.args.toList.map (evS E s) ++ caps) H
  | _ => .fail)
 | _ => .fail
def opT (E : Env) (M : Mdl U) (k : Nat) (H : ZE U) (s : List (SV U.Ty)) (o : Oper) : Tr U (SV U.Ty × ZE U) :=
 match o.op with
 | .move x => .leaf (evS E s x, H)
 | .assign (.const (.slice none 0 0)) => match E.ti o.type with
  | some ⟨.slice e, _, _, _⟩ => .when (U.esz e = (E.size e).getD 0) (.leaf (.all k 0, ZeV H k (.row e [] none)))
  | _ => .fail
 | .assign x => .leaf (evS E s x, H)
 | .pick c a b => (match evS E s c with
  | .lit (.bool true) => .leaf (evS E s a, H)
  | .lit (.bool false) => .leaf (evS E s b, H)
  | .sb t => (match asBool (evS E s a), asBool (evS E s b) with
   | some x, some y => .leaf (.sb (cond t x y), H)
   | _, _ => .br t (.leaf (evS E s a, H)) (.leaf (evS E s b, H)))
  | _ => .fail)
 | .alloc t => match E.ti t with
  | some i => match i.zero with | some z => .when (z.cells.length = i.size /\ okV z = true) (.leaf (.ptr k 0 0 1, ZeV H k (.var t i.size (ofV U z)))) | none => .fail
  | none => .fail
 | .box t x => match E.ti t with
  | some i => .when ((cellsS (evS E s x)).length = i.size /\ okS (evS E s x) = true) (.leaf (.ptr k 0 0 1, ZeV H k (.var t i.size (evS E s x))))
  | none => .fail
 | .build t parts => Zsa H (.opt (ZxL E t (parts.toList.map fun (i, x) => (i, evS E s x))))
 | .buildSlice t n parts => ZeY E k H t n (parts.toList.map fun (i, x) => (i, evS E s x))
 | .load t a => Zsa H (loadT E H t (evS E s a))
 | .store t a v => (storeT E H t (evS E s a) (evS E s v)).andThen fun H' => .leaf (.no, H')
 | .nilCheck x => (match evS E s x with
  | .ptr a b c d => .leaf (.ptr a b c d, H)
  | .ept a b c d => .leaf (.ept a b c d, H)
  | .raw (.ept a b c d) => .leaf (.raw (.ept a b c d), H)
  | .fn a b c => .leaf (.fn a b c, H)
  | _ => .fail)
 | .binOp op t x y _ => Zsa H (binT E op t (evS E s x) (evS E s y))
 | .unOp op _ x => Zsa H (unT op (evS E s x))
 | .convert src dst x => if E.isStr src && E.isBytes dst then ZxN E k H dst (evS E s x) else Zsa H (ZzY E H src dst (evS E s x))
 | .makeSlice t l c => match E.ti t with
  | some ⟨.slice e, _, _, _⟩ => (match ZyN (evS E s l), ZyN (evS E s c), E.ti e with
   | some (n, _), some (m, _), some ei => (match ei.zero with
    | some z => (match U.Zpw e (ofV U z) with
     | some y => .when (0 < ei.size /\ z.cells.length = ei.size /\ okV z = true /\ U.esz e = ei.size)
       (.chk (decide (0 <= n /\ n <= m /\ m.toNat * ei.bytes <= lim /\ m <= maxLen)) (.leaf (.all k (List.replicate n.toNat y).length, ZeV H k (.row e (List.replicate n.toNat y) none))))
     | none => .fail)
    | none => .fail)
   | _, _, _ => .fail)
  | _ => .fail
 | .slice t x lo hi mx => match E.ti t with
  | some ⟨.array n e, _, _, _⟩ => ZrP E H n e (evS E s x) (lo.map (evS E s)) (hi.map (evS E s)) (mx.map (evS E s))
  | _ => sliceT E H t (evS E s x) (lo.map (evS E s)) (hi.map (evS E s)) (mx.map (evS E s))
 | .sliceToArrayPointer t x => Zsa H (arrT E t (evS E s x))
 | .fieldAddr t x f => Zsa H (.opt (ZhF E t (evS E s x) f))
 | .field t x f => Zsa H (.opt (Zw1 E t (evS E s x) f))
 | .indexAddr t x i => Zsa H (Zie E H t (evS E s x) (evS E s i))
 | .index t x i => Zsa H (Zxo E t (evS E s x) (evS E s i))
 | .extract x i => (match evS E s x with | .tup vs => Zsa H (.opt vs[i]?) | _ => .fail)
 | .makeFunc (.func f) first caps => .leaf (.fn f (first.toList.map (evS E s)) (caps.toList.map (evS E s)), H)
 | .call c => ZAX E M k H s c
 | _ => .fail
def stepT (E : Env) (M : Mdl U) (ops : Array Oper) (k i : Nat) (st : SSt U) : Tr U (SSt U) :=
 match ops[i]? with
 | none => .leaf st
 | some o =>
  let run (st : SSt U) : Tr U (SSt U) := (opT E M k st.H st.s o).andThen fun r => .leaf ⟨ZzP st.s o.dst r.1, r.2⟩
  let skip (st : SSt U) : Tr U (SSt U) := .leaf ⟨ZzP st.s o.dst .no, st.H⟩
  match o.guard with
  | none => run st
  | some (j, want) =>
   match (ops[j]?).bind (·.dst) with
   | none => .fail
   | some d => (match st.s.getD d .und with
    | .no => skip st
    | .lit (.bool true) => if want then run st else skip st
    | .lit (.bool false) => if want then skip st else run st
    | .sb b => .br b (if want then run ⟨st.s.set d (.lit (.bool true)), st.H⟩ else skip ⟨st.s.set d (.lit (.bool true)), st.H⟩)
      (if want then skip ⟨st.s.set d (.lit (.bool false)), st.H⟩ else run ⟨st.s.set d (.lit (.bool false)), st.H⟩)
    | _ => .fail)
def opsT (E : Env) (M : Mdl U) (ops : Array Oper) : List Nat -> SSt U -> Tr U (SSt U)
 | [], st => .leaf st
 | i :: rest, st => (stepT E M ops st.H.length i st).andThen (opsT E M ops rest)
def Zws : SV U.Ty -> List Nat
 | .lsl id _ _ _ => [id]
 | .all id _ => [id]
 | .ptr id _ _ _ => [id]
 | .raw v => Zcn v
 | _ => []
def ZAC : SV U.Ty -> List Nat
 | .agg cs => cs.flatMap Zws
 | .raw v => Z1j v
 | v => Zws v
def Zqo (E : Env) (s : List (SV U.Ty)) (o : Oper) : List Nat := o.op.operands.toList.flatMap fun x => ZAC (evS E s x)
def ZzA : Zvl U.Ty -> Bool | .dead => true | _ => false
def Zs9 (E : Env) (s : List (SV U.Ty)) (o : Oper) : SV U.Ty := match Z7X o with | some a => evS E s a | _ => .no
def ZrL (H : ZE U) (a : SV U.Ty) (k : Nat) : Bool := match a with
 | .ptr id _ _ tot => id == k && (match H[id]? with | some (.var _ _ _) => tot == 1 | _ => false)
 | .all id _ => id == k && (match H[id]? with | some (.row _ _ _) => true | _ => false)
 | _ => false
def ZtL (base : Nat) (s0 : List (SV U.Ty)) : Nat ⊕ Nat -> Option Nat
 | .inl j => some (base + j)
 | .inr d => match s0.getD d .und with | .ptr id _ _ _ => some id | .all id _ => some id | _ => none
def ZAJ (E : Env) (ms : List Nat) (lt : List (Nat × (Nat ⊕ Nat))) (s0 : List (SV U.Ty)) (base i : Nat) (s : List (SV U.Ty)) (H : ZE U) (o : Oper) : Bool :=
 lt.all fun p => match ZtL base s0 p.2 with
  | none => false
  | some k => if p.1 = i then ZrL H (Zs9 E s o) k else !needs E o || (linked ms p.1 i || !(Zqo E s o).contains k)
def ZxI (E : Env) (M : Mdl U) (ops : Array Oper) (ms : List Nat) (lt : List (Nat × (Nat ⊕ Nat))) (s0 : List (SV U.Ty)) (base m i : Nat) (st : SSt U) : Tr U (SSt U) :=
 match ops[i]? with
 | none => .leaf st
 | some o =>
  .when ((Zqo E st.s o).all (fun id => decide (id < base) || (decide (base + m <= id) && ZnV E ops ms i) || (decide (id < base + m) && (ms.getD i 0).testBit (id - base))) = true) (.when ((ZAJ E ms lt s0 base i st.s st.H o && (!decide (Z0a E o = .c) || decide (base + m <= st.H.length))) = true)
   (if Z0a E o = .a then
    match st.H[base + i]? with
    | some b => if ZzA b then stepT E M ops (base + i) i st else .fail
    | none => .fail
    else stepT E M ops st.H.length i st))
def ZlC (E : Env) (M : Mdl U) (ops : Array Oper) (ms : List Nat) (lt : List (Nat × (Nat ⊕ Nat))) (s0 : List (SV U.Ty)) (base m : Nat) : List Nat -> SSt U -> Tr U (SSt U)
 | [], st => .leaf st
 | i :: rest, st => (ZxI E M ops ms lt s0 base m i st).andThen (ZlC E M ops ms lt s0 base m rest)
def Zya (E : Env) (M : Mdl U) (ops : Array Oper) (st : SSt U) : Tr U (SSt U) :=
 let m := if ops.any (fun o => decide (Z0a E o = .a)) then ops.size else 0
 ZlC E M ops (Z2V [] ops.toList) (Zog E ops) st.s st.H.length m (List.range ops.size) ⟨st.s, st.H ++ List.replicate m .dead⟩
end
end Go.Proofs.YtefmbgacbhifdaaGreat.Le
namespace Go.Proofs.YtefmbgacbhifdaaGreat.Le
structure Z0n (U : Z9c) (E : Env) : Prop where
 encS : ∀ t a, toV U (U.encS t a) = U.enc t a
 dec : ∀ t v a, U.Zpw t v = some a -> Z0Y (E.rows t) (toV U v) = U.enc t a
 cells : ∀ t a, (U.enc t a).cells = ZY U (cellsS (U.encS t a))
 nr : ∀ t a, Z05 (U.enc t a) = true
 inj : ∀ t ∈ U.keys, ∀ a b, U.enc t a = U.enc t b -> a = b
section
variable {U : Z9c}
theorem Z0H (xs : List (SV U.Ty)) : ZY U xs = xs.map (toV U) := by
 induction xs with
 | nil => rfl
 | cons x xs ih => simp [ZY, ih]
theorem ZcR (s : List (SV U.Ty)) (t : Nat) : (ZY U s).getD t .und = toV U (s.getD t .und) := by
 rw [Z0H]
 simp only [List.getD, List.getElem?_map]
 cases s[t]? <;> rfl
theorem Ztw (v : V) : toV U (ZCH U v) = v := by
 unfold ZCH
 split <;> rfl
theorem Zl4 (v : V) : toV U (ofV U v) = v := by
 unfold ofV
 split
 ·rename_i cs
  simp only [toV, Z0H, List.map_map, V.agg.injEq]
  conv => rhs; rw [<- List.map_id cs]
  apply List.map_congr_left
  intro x _
  exact Ztw x
 ·exact Ztw _
theorem Z3f (E : Env) (s : List (SV U.Ty)) (x : Operand) : ev E (ZY U s) x = toV U (evS E s x) := by
 cases x with
 | tmp t => exact ZcR s t
 | const v => simp only [ev, evS, Zl4]
 | func f => rfl
 | global g => simp only [ev, evS]; cases E.Zcy g <;> rfl
theorem Zwg (E : Env) (s : List (SV U.Ty)) (xs : List Operand) : xs.map (ev E (ZY U s)) = ZY U (xs.map (evS E s)) := by
 rw [Z0H (xs.map (evS E s)), List.map_map]
 apply List.map_congr_left
 intro x _
 exact Z3f E s x
theorem ZwL (s : List (SV U.Ty)) (d : Option Tmp) (v : SV U.Ty) : ZY U (ZzP s d v) = setSlot (ZY U s) d (toV U v) := by
 unfold ZzP setSlot
 cases d with
 | none => rfl
 | some t => simp only [Z0H, List.map_set]
theorem Z6o (H : ZE U) : (toH U H).length = H.length := by simp [toH]
theorem Z8f (H : ZE U) (i : Nat) : (toH U H)[i]? = (H[i]?).map (Z0F U) := by simp [toH]
theorem Zdt (H : ZE U) (i : Nat) (b : Zvl U.Ty) : toH U (H.set i b) = (toH U H).set i (Z0F U b) := by simp [toH, List.map_set]
theorem Z74 (H : ZE U) (k : Nat) (b : Zvl U.Ty) : toH U (ZeV H k b) = place (toH U H) k (Z0F U b) := by
 unfold ZeV place
 rw [Z6o]
 split
 ·exact Zdt H k b
 ·simp [toH]
theorem Zb4 {x : SV U.Ty} (h : okS x = true) : okV (toV U x) = true := by
 cases x <;> simp_all [okS, toV, okV]
 rename_i v
 cases v <;> simp_all [okS]
theorem Z8U {x : SV U.Ty} (h : okS x = true) : (toV U x).cells = ZY U (cellsS x) := by
 cases x <;> simp_all [okS, toV, V.cells, cellsS, ZY]
 rename_i v
 cases v <;> simp_all [okS, V.cells]
theorem Zy {L M : Type} (T : Tr U L) (f : L -> Tr U M) (y : M) : (T.andThen f).Zz y ↔ ∃ x, T.Zz x /\ (f x).Zz y := by
 induction T with
 | leaf l => simp [Tr.andThen, Tr.Zz]
 | br c a b iha ihb =>
  simp only [Tr.andThen, Tr.Zz, iha, ihb]
  constructor
  ·rintro (⟨h, x, h1, h2⟩ | ⟨h, x, h1, h2⟩)
   ·exact ⟨x, .inl ⟨h, h1⟩, h2⟩
   ·exact ⟨x, .inr ⟨h, h1⟩, h2⟩
  ·rintro ⟨x, (⟨h, h1⟩ | ⟨h, h1⟩), h2⟩
   ·exact .inl ⟨h, x, h1, h2⟩
   ·exact .inr ⟨h, x, h1, h2⟩
 | bind t o k ih =>
  simp only [Tr.andThen, Tr.Zz, ih]
  constructor
  ·rintro ⟨a, h, x, h1, h2⟩; exact ⟨x, ⟨a, h, h1⟩, h2⟩
  ·rintro ⟨x, ⟨a, h, h1⟩, h2⟩; exact ⟨a, h, x, h1, h2⟩
 | chk c a ih =>
  simp only [Tr.andThen, Tr.Zz, ih]
  constructor
  ·rintro ⟨h, x, h1, h2⟩; exact ⟨x, ⟨h, h1⟩, h2⟩
  ·rintro ⟨x, ⟨h, h1⟩, h2⟩; exact ⟨h, x, h1, h2⟩
 | fail => simp [Tr.andThen, Tr.Zz]
theorem Z7V {L : Type} {o : Option L} {x : L} : (Tr.opt (U := U) o).Zz x ↔ o = some x := by
 cases o <;> simp [Tr.opt, Tr.Zz]
theorem ZZ {L : Type} {p : Prop} [Decidable p] {a : Tr U L} {x : L} : (Tr.when p a).Zz x ↔ p /\ a.Zz x := by
 unfold Tr.when
 split <;> simp_all [Tr.Zz]
theorem Z0s {L : Type} {H : ZE U} {id tot : Nat} {k : (t : Nat) -> List (U.Ty t) -> Option Nat -> Tr U L} {y : L} (h : (rowAt H id tot k).Zz y) :
  ∃ t xs fl, H[id]? = some (.row t xs fl) /\ xs.length = tot /\ (k t xs fl).Zz y /\ Z1L (toH U H) id tot = some (Z0F U (.row t xs fl)) := by
 unfold rowAt at h
 split at h
 ·rename_i t xs fl hb
  simp only [Tr.Zz, beq_iff_eq] at h
  refine ⟨t, xs, fl, hb, h.1, h.2, ?_⟩
  unfold Z1L
  rw [Z8f, hb]
  simp [Z0F, h.1]
 ·simp [Tr.Zz] at h
theorem ZoH {H : ZE U} {x y : SV U.Ty} (h : (ZkT H x).Zz y) : Zn8 (toH U H) (toV U x) = some (toV U y) := by
 unfold ZkT at h
 split at h <;> (try (simp only [Tr.Zz] at h; subst h; rfl))
 ·obtain ⟨t, xs, fl, h1, h2, h3, h4⟩ := Z0s h
  simp only [Tr.Zz] at h3
  subst h3
  subst h2
  simp only [toV, Zn8, h4]
  simp only [Z0F, Nat.zero_add, Nat.le_refl, decide_true, Bool.and_self, if_true, List.drop_zero, Option.some.injEq, V.sl.injEq, true_and]
  exact List.take_of_length_le (by simp)
 ·obtain ⟨t, xs, fl, h1, h2, h3, h4⟩ := Z0s h
  simp only [Tr.Zz, decide_eq_true_eq] at h3
  obtain ⟨h3, rfl⟩ := h3
  simp only [toV, Zn8, h4]
  simp [Z0F, h3, List.map_take, List.map_drop]
 ·simp [Tr.Zz] at h
theorem Zzg {H : ZE U} : ∀ {xs ys : List (SV U.Ty)}, (ZrX H xs).Zz ys -> ZrA (toH U H) (ZY U xs) = some (ZY U ys) := by
 intro xs
 induction xs with
 | nil => intro ys h; simp only [ZrX, Tr.Zz] at h; subst h; rfl
 | cons x xs ih =>
  intro ys h
  simp only [ZrX, Zy, Tr.Zz] at h
  obtain ⟨w, h1, ws, h2, rfl⟩ := h
  simp only [ZY, ZrA, ZoH h1, ih h2]
theorem Zpr {H : ZE U} {x y : SV U.Ty} (h : (ZzI H x).Zz y) : frz (toH U H) (toV U x) = some (toV U y) := by
 unfold ZzI at h
 split at h
 ·rename_i cs
  simp only [Zy, Tr.Zz] at h
  obtain ⟨ws, h1, rfl⟩ := h
  simp only [toV, frz, Zzg h1, Option.map_some]
 ·rename_i hne
  have := ZoH h
  unfold frz
  split
  ·rename_i cs hcs
   exfalso
   cases x <;> simp_all [toV, ZkT, Tr.Zz]
  ·exact this
theorem ZhE {H : ZE U} : ∀ {xs ys : List (SV U.Ty)}, (ZbB H xs).Zz ys -> Z2q (toH U H) (ZY U xs) = some (ZY U ys) := by
 intro xs
 induction xs with
 | nil => intro ys h; simp only [ZbB, Tr.Zz] at h; subst h; rfl
 | cons x xs ih =>
  intro ys h
  simp only [ZbB, Zy, Tr.Zz] at h
  obtain ⟨w, h1, ws, h2, rfl⟩ := h
  simp only [ZY, Z2q, Zpr h1, ih h2]
theorem Ztx (x : SV U.Ty) : Zew (toV U x) = Zmq x := by
 cases x <;> simp [toV, Zew, Zmq]
theorem ZsT (x : SV U.Ty) : Z8b (toV U x) = Zki x := by
 cases x <;> simp [toV, Z8b, Zki, Zmq, Zew]
 rename_i cs
 rw [Z0H, List.flatMap_map]
 simp [Ztx]
theorem ZkG (xs : List (SV U.Ty)) : (ZY U xs).flatMap Z8b = xs.flatMap Zki := by
 rw [Z0H, List.flatMap_map]
 simp [ZsT]
theorem ZyF (x : SV U.Ty) : Zcn (toV U x) = Zws x := by
 cases x <;> simp [toV, Zcn, Zws]
theorem ZwM (x : SV U.Ty) : Z1j (toV U x) = ZAC x := by
 cases x <;> simp [toV, Z1j, ZAC, Zws, Zcn]
 rename_i cs
 rw [Z0H, List.flatMap_map]
 simp [ZyF]
theorem ZdT (H : ZE U) : ∀ (ids : List Nat), (∀ i ∈ ids, ∃ t xs fl, H[i]? = some (.row t xs fl)) -> toH U (ZoG H ids) = bump (toH U H) ids := by
 intro ids
 induction ids generalizing H with
 | nil => intro _; rfl
 | cons i is ih =>
  intro h
  simp only [ZoG, bump]
  have hmod : toH U (H.modify i Zo4) = (toH U H).modify i fun b => { b with floor := b.xs.length } := by
   apply List.ext_getElem?
   intro j
   simp only [toH, List.getElem?_map, List.getElem?_modify]
   by_cases hij : i = j
   ·subst hij
    obtain ⟨t, xs, fl, hb⟩ := h i (by simp)
    simp [hb, Zo4, Z0F]
   ·simp [hij]
  rw [ih, hmod]
  intro j hj
  obtain ⟨t, xs, fl, hb⟩ := h j (by simp [hj])
  by_cases hij : i = j
  ·subst hij
   exact ⟨t, xs, some xs.length, by simp [List.getElem?_modify, hb, Zo4]⟩
  ·exact ⟨t, xs, fl, by simp [List.getElem?_modify, hij, hb]⟩
theorem Zi1 {H : ZE U} {x y : SV U.Ty} (h : (ZkT H x).Zz y) : ∀ i ∈ Zmq x, ∃ t xs fl, H[i]? = some (.row t xs fl) := by
 intro i hi
 unfold ZkT at h
 split at h <;> (try (simp [Zmq] at hi))
 ·obtain ⟨t, xs, fl, h1, _⟩ := Z0s h
  subst hi
  exact ⟨t, xs, fl, h1⟩
 ·obtain ⟨t, xs, fl, h1, _⟩ := Z0s h
  subst hi
  exact ⟨t, xs, fl, h1⟩
 ·simp [Tr.Zz] at h
theorem ZuF {H : ZE U} : ∀ {xs ys : List (SV U.Ty)}, (ZrX H xs).Zz ys -> ∀ i ∈ xs.flatMap Zmq, ∃ t xs fl, H[i]? = some (.row t xs fl) := by
 intro xs
 induction xs with
 | nil => intro ys h i hi; simp at hi
 | cons x xs ih =>
  intro ys h i hi
  simp only [ZrX, Zy, Tr.Zz] at h
  obtain ⟨w, h1, ws, h2, rfl⟩ := h
  simp only [List.flatMap_cons, List.mem_append] at hi
  rcases hi with hi | hi
  ·exact Zi1 h1 i hi
  ·exact ih h2 i hi
theorem ZqR {H : ZE U} {x y : SV U.Ty} (h : (ZzI H x).Zz y) : ∀ i ∈ Zki x, ∃ t xs fl, H[i]? = some (.row t xs fl) := by
 unfold ZzI at h
 split at h
 ·simp only [Zy, Tr.Zz] at h
  obtain ⟨ws, h1, rfl⟩ := h
  exact ZuF h1
 ·rename_i hne
  intro i hi
  refine Zi1 h i ?_
  cases x <;> simp_all [Zki, Zmq]
  simp [ZkT, Tr.Zz] at h
theorem ZiX {H : ZE U} : ∀ {xs ys : List (SV U.Ty)}, (ZbB H xs).Zz ys -> ∀ i ∈ xs.flatMap Zki, ∃ t xs fl, H[i]? = some (.row t xs fl) := by
 intro xs
 induction xs with
 | nil => intro ys h i hi; simp at hi
 | cons x xs ih =>
  intro ys h i hi
  simp only [ZbB, Zy, Tr.Zz] at h
  obtain ⟨w, h1, ws, h2, rfl⟩ := h
  simp only [List.flatMap_cons, List.mem_append] at hi
  rcases hi with hi | hi
  ·exact ZqR h1 i hi
  ·exact ih h2 i hi
theorem ZgA (cs : List (SV U.Ty)) (off n : Nat) (b : Bool) : partOf (ZY U cs) off n b = (ZsK cs off n b).map (toV U) := by
 unfold partOf ZsK
 simp only [Z0H, List.length_map]
 split
 ·split
  ·simp [toV, Z0H, List.map_take, List.map_drop]
  ·rfl
 ·simp
theorem Z0p (cs : List (SV U.Ty)) : (ZY U cs).length = cs.length := by simp [Z0H]
theorem ZnL {x : SV U.Ty} {off : Nat} {cs : List (SV U.Ty)} {y : SV U.Ty} (h : Zpk x off cs = some y) : Z6g (toV U x) off (ZY U cs) = some (toV U y) := by
 unfold Zpk at h
 split at h
 ·rename_i ds
  split at h
  ·rename_i hle
   simp only [Option.some.injEq] at h
   subst h
   simp only [toV, Z6g, Z0p, hle, if_true]
   simp [Z0H, List.map_take, List.map_drop]
  ·cases h
 ·cases h
 ·rename_i h1 h2
  split at h
  ·rename_i c
   simp only [Option.some.injEq] at h
   subst h
   have : ∀ ds, toV U x ≠ .agg ds := by
    intro ds hds
    cases x <;> simp_all [toV]
   unfold Z6g
   split
   ·rename_i ds hds; exact absurd hds (this ds)
   ·simp [ZY]
  ·cases h
theorem Zkb {H : ZE U} {id : Nat} {e n : Nat} {x : SV U.Ty} (h : H[id]? = some (.var e n x)) : Z1L (toH U H) id 1 = some (ZK false false e n [toV U x]) := by
 unfold Z1L
 rw [Z8f, h]
 simp [Z0F, ZK]
theorem Zqm {H : ZE U} {id tot : Nat} {t : Nat} {xs : List (U.Ty t)} {fl : Option Nat} (h : H[id]? = some (.row t xs fl)) (hl : xs.length = tot) : Z1L (toH U H) id tot = some (Z0F U (.row t xs fl)) := by
 unfold Z1L
 rw [Z8f, h]
 simp [Z0F, hl]
theorem ZsU {E : Env} (hU : Z0n U E) {H : ZE U} {t : TypeId} {a y : SV U.Ty} (h : (loadT E H t a).Zz y) : Zji E (toH U H) t (toV U a) = some (toV U y) := by
 unfold loadT at h
 split at h
 ·simp [Tr.Zz] at h
 ·rename_i i hi
  unfold Zji
  rw [hi]
  simp only
  split at h
  ·rename_i et xs j off
   simp only [Tr.Zz, Z7V] at h
   obtain ⟨x, hx, hp⟩ := h
   simp only [toV, ZiJ, List.getElem?_map, hx, Option.map_some]
   rw [hU.cells, ZgA, hp]
   rfl
  ·rename_i id j off tot
   split at h
   ·rename_i e n x hb
    simp only [ZZ, Z7V] at h
    obtain ⟨⟨rfl, rfl, hok⟩, hp⟩ := h
    simp only [toV, Zkb hb, ZK, ZiJ, List.getElem?_cons_zero]
    rw [Z8U hok, ZgA, hp]
    rfl
   ·rename_i et xs fl hb
    simp only [Tr.Zz, Z7V, beq_iff_eq] at h
    obtain ⟨hl, x, hx, hp⟩ := h
    simp only [toV, Zqm hb hl, Z0F, ZiJ, List.getElem?_map, hx, Option.map_some]
    rw [hU.cells, ZgA, hp]
    rfl
   ·simp [Tr.Zz] at h
  ·rename_i e cs off
   simp only [Z7V] at h
   cases hp : partOf cs off i.size i.isAgg with
   | none => simp [hp] at h
   | some v =>
    simp only [hp, Option.map_some, Option.some.injEq] at h
    subst h
    simp only [toV, ZiJ, List.getElem?_cons_zero, V.cells, hp, Zl4]
  ·simp [Tr.Zz] at h
theorem ZvP {E : Env} (hU : Z0n U E) {H H' : ZE U} {t : TypeId} {a v : SV U.Ty} (h : (storeT E H t a v).Zz H') : ZbS E (toH U H) t (toV U a) (toV U v) = some (toH U H') := by
 unfold storeT at h
 split at h
 ·simp [Tr.Zz] at h
 ·rename_i i hi
  unfold ZbS
  rw [hi]
  simp only
  split at h
  ·rename_i id j off tot
   split at h
   ·rename_i e n x hb
    simp only [ZZ] at h
    obtain ⟨⟨⟨rfl, rfl⟩, hl, hok, hokx⟩, h⟩ := h
    split at h
    ·rename_i x' hx'
     simp only [ZZ, Tr.Zz] at h
     obtain ⟨hok', rfl⟩ := h
     simp only [toV, Zkb hb, ZK, List.getElem?_cons_zero]
     rw [Z8U hok, Z0p, hl, ZnL hx', Zb4 hok]
     simp [Zb4 hok', Zdt, Z0F, ZK]
    ·simp [Tr.Zz] at h
   ·rename_i et xs fl hb
    simp only [ZZ, Tr.Zz, Zy, Bool.and_eq_true, beq_iff_eq, decide_eq_true_eq] at h
    obtain ⟨⟨hl, hok, hni⟩, ⟨hlen, hfl⟩, x, hx, v', hv', h⟩ := h
    split at h
    ·rename_i x' hx'
     split at h
     ·rename_i y hy
      simp only [ZZ, Tr.Zz] at h
      obtain ⟨⟨hok1, hok2⟩, rfl⟩ := h
      simp only [toV, Zqm hb hlen, Z0F, List.getElem?_map, hx, Option.map_some]
      rw [Z8U hok, Z0p, hl, Zb4 hok]
      have hc : (frz (toH U H) (toV U v)) = some (toV U v') := Zpr hv'
      have hsp := ZnL hx'
      rw [hU.encS] at hsp
      have hdec := hU.dec et x' y hy
      have hokr : okV (U.enc et y) = true := by rw [<- hdec, Zh5]; exact Zb4 hok2
      rw [hc]
      simp only [Z8U hok1, hsp, Option.map_some, hdec, hokr, Zb4 hok1, ZsT, hni, beq_self_eq_true, Bool.and_self, Bool.and_true, decide_eq_true hfl, if_true, Bool.not_true, Bool.or_self, Bool.false_eq_true, if_false]
      rw [Zdt, ZdT H _ (ZqR hv')]
      simp [Z0F, List.map_set]
     ·simp [Tr.Zz] at h
    ·simp [Tr.Zz] at h
   ·simp [Tr.Zz] at h
  ·simp [Tr.Zz] at h
end
end Go.Proofs.YtefmbgacbhifdaaGreat.Le
namespace Go.Proofs.YtefmbgacbhifdaaGreat.Le
section
variable {U : Z9c}
theorem Z3e {x : SV U.Ty} {k : IntKind} {a : Int} (h : asInt x = some (k, a)) : toV U x = .lit (.int k a) := by
 unfold asInt at h
 split at h <;> simp_all [toV]
theorem Z5l {x : SV U.Ty} {s : ByteArray} (h : ZfF x = some s) : toV U x = .lit (.string s) := by
 unfold ZfF at h
 split at h <;> simp_all [toV]
theorem Z6u {x : SV U.Ty} {b : Bool} (h : asBool x = some b) : toV U x = .lit (.bool b) := by
 unfold asBool at h
 split at h <;> simp_all [toV]
theorem ZqH {x : SV U.Ty} {n : Int} {l : Bool} (h : ZyN x = some (n, l)) : ∃ k, toV U x = .lit (.int k n) := by
 unfold ZyN at h
 split at h <;> simp_all [toV]
theorem ZAO {op : BinOp} {k : IntKind} {a b : Int} {l : Bool} {y : SV U.Ty} (h : (intT op k a b l).Zz y) : (ZmK op k a b).map V.lit = some (toV U y) := by
 unfold intT at h
 cases op <;> simp only [Tr.Zz] at h <;> (try (subst h; rfl)) <;> (try (exact h.elim))
 ·split at h
  ·split at h
   ·simp [Tr.Zz] at h
   ·rename_i hb
    simp only [Tr.Zz] at h
    subst h
    simp [ZmK, hb, toV]
  ·simp only [Tr.Zz, bne_iff_ne, ne_eq] at h
   obtain ⟨hb, rfl⟩ := h
   simp [ZmK, hb, toV]
 ·split at h
  ·split at h
   ·simp [Tr.Zz] at h
   ·rename_i hb
    simp only [Tr.Zz] at h
    subst h
    simp [ZmK, hb, toV]
  ·simp only [Tr.Zz, bne_iff_ne, ne_eq] at h
   obtain ⟨hb, rfl⟩ := h
   simp [ZmK, hb, toV]
theorem ZpV {op : BinOp} {k : IntKind} {a b : Int} {l : Bool} {y : SV U.Ty} (h : (Ztk op k a b l).Zz y) : (Zb3 op k a b).map V.lit = some (toV U y) := by
 unfold Ztk at h
 split at h
 ·simp [Tr.Zz] at h
 ·rename_i r hr
  have key : ∀ (hb : ¬ b < 0) (hy : SV.si k r = y), (Zb3 op k a b).map V.lit = some (toV U y) := by
   intro hb hy
   subst hy
   unfold Zb3
   unfold ZzX at hr
   split at hr <;> simp_all [toV]
  split at h
  ·split at h
   ·simp [Tr.Zz] at h
   ·rename_i hb
    exact key hb h
  ·simp only [Tr.Zz, decide_eq_true_eq] at h
   exact key (by omega) h.2
theorem ZAf {op : BinOp} {x y : ByteArray} {z : SV U.Ty} (h : (strT op x y).Zz z) : (ZuJ op x y).map V.lit = some (toV U z) := by
 unfold strT at h
 cases op <;> simp only [Tr.Zz] at h <;> (try (subst h; rfl)) <;> (try (exact h.elim))
 obtain ⟨hb, rfl⟩ := h
 simp only [decide_eq_true_eq] at hb
 simp [ZuJ, hb, toV]
theorem ZsI : ∀ {ks : List FK} {xs ys : List (SV U.Ty)} {r : Bool}, Z5s ks xs ys = some r -> Z4r ks (ZY U xs) (ZY U ys) = some r := by
 intro ks
 induction ks with
 | nil =>
  intro xs ys r h
  unfold Z5s at h
  split at h <;> simp_all [ZY, Z4r]
 | cons k ks ih =>
  intro xs ys r h
  cases xs with
  | nil => cases k <;> simp [Z5s] at h
  | cons x xs =>
   cases ys with
   | nil => cases k <;> simp [Z5s] at h
   | cons y ys =>
    cases k with
    | b =>
     simp only [Z5s] at h
     split at h
     ·rename_i a b r' h1 h2 h3
      simp only [Option.some.injEq] at h
      subst h
      simp only [ZY, Z6u h1, Z6u h2, Z4r, ih h3]
     ·cases h
    | i k =>
     simp only [Z5s] at h
     split at h
     ·rename_i k1 a k2 b r' h1 h2 h3
      split at h
      ·rename_i hk
       simp only [Option.some.injEq] at h
       subst h
       simp only [ZY, Z3e h1, Z3e h2, Z4r, ih h3, hk, and_self, if_true]
      ·cases h
     ·cases h
    | s =>
     simp only [Z5s] at h
     split at h
     ·rename_i a b r' h1 h2 h3
      simp only [Option.some.injEq] at h
      subst h
      simp only [ZY, Z5l h1, Z5l h2, Z4r, ih h3]
     ·cases h
theorem ZBd {E : Env} {op : BinOp} {t : TypeId} {x y z : SV U.Ty} (h : (binT E op t x y).Zz z) : Zvj E op t (toV U x) (toV U y) = some (toV U z) := by
 unfold binT at h
 split at h
 ·rename_i xs ys
  split at h
  ·rename_i ks hks
   split at h
   ·rename_i b hb
    have := ZsI hb
    split at h
    ·simp only [Tr.Zz] at h
     subst h
     simp only [toV, Zvj, hks, this, Option.map_some]
    ·simp only [Tr.Zz] at h
     subst h
     simp only [toV, Zvj, hks, this, Option.map_some]
    ·simp [Tr.Zz] at h
   ·simp [Tr.Zz] at h
  ·simp [Tr.Zz] at h
 ·split at h
  ·rename_i k a j b ha hb
   rw [Z3e ha, Z3e hb]
   split at h
   ·exact ZpV h
   ·exact ZpV h
   ·rename_i h1 h2
    split at h
    ·rename_i hk
     have hi := ZAO h
     subst hk
     have hb : Zvj E op t (.lit (.int k a)) (.lit (.int k b)) = (ZmK op k a b).map V.lit := by
      cases op <;> first | exact absurd rfl h1 | exact absurd rfl h2 | simp [Zvj]
     rw [hb]
     exact hi
    ·simp [Tr.Zz] at h
  ·split at h
   ·rename_i a b ha hb
    rw [Z5l ha, Z5l hb]
    have := ZAf h
    unfold Zvj
    split <;> simp_all
   ·split at h
    ·rename_i a b ha hb
     rw [Z6u ha, Z6u hb]
     split at h
     ·rename_i hE
      split at h
      ·simp only [Tr.Zz] at h
       subst h
       simp [Zvj, hE, toV]
      ·simp only [Tr.Zz] at h
       subst h
       simp [Zvj, hE, toV]
      ·simp [Tr.Zz] at h
     ·simp [Tr.Zz] at h
    ·simp [Tr.Zz] at h
theorem ZD7 {op : UnOp} {x z : SV U.Ty} (h : (unT op x).Zz z) : unD op (toV U x) = some (toV U z) := by
 unfold unT at h
 split at h
 ·rename_i k n hk
  simp only [Tr.Zz] at h
  subst h
  rw [Z3e hk]
  rfl
 ·rename_i k n hk
  simp only [Tr.Zz] at h
  subst h
  rw [Z3e hk]
  rfl
 ·rename_i b _ hb
  simp only [Tr.Zz] at h
  subst h
  rw [Z6u hb]
  rfl
 ·simp [Tr.Zz] at h
theorem ZD5 {isMax : Bool} {k : IntKind} : ∀ {xs : List (SV U.Ty)} {a r : Int}, mmT isMax k a xs = some r -> mm isMax k a (ZY U xs) = some (.lit (.int k r)) := by
 intro xs
 induction xs with
 | nil => intro a r h; simp only [mmT, Option.some.injEq] at h; subst h; rfl
 | cons x xs ih =>
  intro a r h
  simp only [mmT] at h
  split at h
  ·rename_i j b hj
   split at h
   ·rename_i hk
    simp only [ZY, Z3e hj, mm, hk, if_true]
    exact hk ▸ ih h
   ·cases h
  ·cases h
theorem ZnD {isMax : Bool} {xs : List (SV U.Ty)} {z : SV U.Ty} (h : (Zop isMax xs).Zz z) : ZgH isMax (ZY U xs) = some (toV U z) := by
 unfold Zop at h
 split at h
 ·rename_i x rest
  split at h
  ·rename_i k a hk
   split at h
   ·rename_i r hr
    simp only [Tr.Zz] at h
    subst h
    simp only [ZY, Z3e hk, ZgH, toV]
    exact ZD5 hr
   ·simp [Tr.Zz] at h
  ·simp [Tr.Zz] at h
 ·simp [Tr.Zz] at h
def Zal (parts : List (Nat × SV U.Ty)) : List (Nat × V) := parts.map fun (i, x) => (i, toV U x)
theorem ZsR {place : Nat -> Option (Nat × Nat)} : ∀ {parts : List (Nat × SV U.Ty)} {cs cs' : List (SV U.Ty)}, ZpF cs parts place = some cs' -> Zmu (ZY U cs) (Zal parts) place = some (ZY U cs') := by
 intro parts
 induction parts with
 | nil => intro cs cs' h; simp only [ZpF, Option.some.injEq] at h; subst h; rfl
 | cons p parts ih =>
  intro cs cs' h
  obtain ⟨i, v⟩ := p
  simp only [ZpF] at h
  split at h
  ·cases h
  ·rename_i off size hp
   split at h
   ·rename_i hc
    simp only [Bool.and_eq_true, beq_iff_eq, decide_eq_true_eq] at hc
    obtain ⟨⟨h1, h2⟩, h3⟩ := hc
    have := ih h
    simp only [Zal, List.map_cons, Zmu, hp]
    rw [Z8U h3, Z0p, h1, Z0p, Zb4 h3]
    simp only [beq_self_eq_true, h2, decide_true, Bool.and_self, if_true]
    rw [<- this]
    simp only [Zal, Z0H, List.map_append, List.map_take, List.map_drop]
   ·cases h
theorem cells_toV' {x : SV U.Ty} (h : ∀ cs, x ≠ .raw (.agg cs)) : (toV U x).cells = ZY U (cellsS x) := by
 cases x with
 | raw v =>
  cases v with
  | agg cs => exact absurd rfl (h cs)
  | _ => rfl
 | _ => rfl
theorem ZpT {z : V} : ZY U (cellsS (ofV U z)) = z.cells := by
 have hr : ∀ cs, ofV U z ≠ .raw (.agg cs) := by
  intro cs hcs
  unfold ofV at hcs
  split at hcs
  ·cases hcs
  ·rename_i hne
   unfold ZCH at hcs
   split at hcs <;> (try cases hcs)
   simp at hne
 rw [<- cells_toV' hr, Zl4]
theorem ZvG {E : Env} {t : TypeId} {parts : List (Nat × SV U.Ty)} {y : SV U.Ty} (h : ZxL E t parts = some y) : ZnI E t (Zal parts) = some (toV U y) := by
 unfold ZxL at h
 unfold ZnI
 split at h
 ·rename_i i hi
  rw [hi]
  split at h
  ·rename_i z hz
   simp only [hz]
   split at h
   ·rename_i hok
    rw [if_pos hok]
    split at h
    ·rename_i fs hty
     simp only [hty]
     split at h
     ·rename_i hall
      rw [if_pos hall]
      cases hf : ZpF (cellsS (ofV U z)) parts (placesOf E fs) with
      | none => simp [hf] at h
      | some cs =>
       simp only [hf, Option.map_some, Option.some.injEq] at h
       subst h
       have := ZsR hf
       rw [ZpT] at this
       simp only [this, Option.map_some, toV]
     ·cases h
    ·rename_i len e hty
     simp only [hty]
     split at h
     ·rename_i ei hei
      simp only [hei]
      cases hf : ZpF (cellsS (ofV U z)) parts (fun i => some (i * ei.size, ei.size)) with
      | none => simp [hf] at h
      | some cs =>
       simp only [hf, Option.map_some, Option.some.injEq] at h
       subst h
       have := ZsR hf
       rw [ZpT] at this
       simp only [this, Option.map_some, toV]
     ·cases h
    ·cases h
   ·cases h
  ·cases h
 ·cases h
theorem ZpS {E : Env} (hU : Z0n U E) {e : Nat} : ∀ {vs : List (SV U.Ty)} {ys : List (U.Ty e)}, Zn6 e vs = some ys -> (ZY U vs).map (Z0Y (E.rows e)) = ys.map (U.enc e) /\ ∀ v ∈ vs, okS v = true := by
 intro vs
 induction vs with
 | nil => intro ys h; simp only [Zn6, Option.some.injEq] at h; subst h; simp [ZY]
 | cons v vs ih =>
  intro ys h
  simp only [Zn6] at h
  split at h
  ·rename_i a as h1 h2 h3
   simp only [Option.some.injEq] at h
   subst h
   obtain ⟨i1, i2⟩ := ih h3
   refine ⟨by simp only [ZY, List.map_cons, i1, hU.dec _ _ _ h2], ?_⟩
   intro x hx
   rcases List.mem_cons.1 hx with hx | hx
   ·rw [hx]; exact h1
   ·exact i2 x hx
  ·cases h
theorem ZtU (sz : Nat) : ∀ (vs pre post : List V), (∀ v ∈ vs, v.cells.length = sz /\ okV v = true) -> vs.length <= post.length ->
  Zjs (pre ++ post) sz ((List.range' pre.length vs.length).zip vs) = some (pre ++ vs ++ post.drop vs.length) := by
 intro vs
 induction vs with
 | nil => intro pre post _ _; simp [Zjs]
 | cons v vs ih =>
  intro pre post h hl
  cases post with
  | nil => simp at hl
  | cons p post =>
   simp only [List.length_cons, List.range'_succ, List.zip_cons_cons, Zjs]
   obtain ⟨h1, h2⟩ := h v (by simp)
   have hset : (pre ++ p :: post).set pre.length v = (pre ++ [v]) ++ post := by simp
   have := ih (pre ++ [v]) post (fun x hx => h x (by simp [hx])) (by simpa using hl)
   rw [List.length_append, List.length_singleton] at this
   rw [h1, h2, hset, this]
   simp
theorem ZmS {E : Env} (hU : Z0n U E) {k : Nat} {H H' : ZE U} {t : TypeId} {n : Nat} {parts : List (Nat × SV U.Ty)} {y : SV U.Ty} (h : (ZeY E k H t n parts).Zz (y, H')) :
  Z38 E k (toH U H) t n (Zal parts) = some (toV U y, toH U H') := by
 unfold ZeY at h
 unfold Z38
 split at h
 ·rename_i e sz by' z0 hti
  rw [hti]
  simp only
  split at h
  ·rename_i ei hei
   simp only [hei]
   split at h
   ·rename_i z hz
    simp only [Zy] at h
    obtain ⟨vs, hvs, h⟩ := h
    split at h
    ·rename_i ys hys
     simp only [ZZ, Tr.Zz, Prod.mk.injEq] at h
     obtain ⟨⟨⟨c1, c2, c3, c4⟩, c5, c6, c7⟩, rfl, rfl⟩ := h
     have hp2 : (Zal parts).map (·.2) = ZY U (parts.map (·.2)) := by
      rw [Z0H]; simp [Zal]
     have hp1 : (Zal parts).map (·.1) = List.range n := by rw [<- c5]; simp [Zal]
     obtain ⟨d1, d2⟩ := ZpS hU hys
     have hf := ZhE hvs
     have hlen : (ZY U vs).length = n := by
      rw [<- Zos hf, Z0p, List.length_map, <- List.length_map (f := (·.1)) (as := parts), c5, List.length_range]
     have hlen' : (ys.map (U.enc e)).length = n := by rw [<- d1, List.length_map, hlen]
     have hempty : (n == 0 && !(Zal parts).isEmpty) = false := by
      cases hn : n with
      | zero =>
       have : parts = [] := by
        have := congrArg List.length c5
        rw [hn] at this
        simpa using this
       simp [this, Zal]
      | succ m => simp
     rw [hz, hp2, hf]
     simp only
     rw [if_pos ⟨c1, c2, c3, c4, hempty⟩, hp1, d1]
     have hfull := ZtU ei.size (ys.map (U.enc e)) [] (List.replicate n (Z0Y (E.rows e) z)) (by
      intro v hv
      rw [<- d1] at hv
      obtain ⟨w, hw, rfl⟩ := List.mem_map.1 hv
      rw [Z0H] at hw
      obtain ⟨s, hs, rfl⟩ := List.mem_map.1 hw
      have hok := d2 s hs
      rw [Zh5, ZuC]
      refine ⟨?_, Zb4 hok⟩
      rw [Z8U hok, Z0p]
      simpa using List.all_eq_true.1 c6 s hs) (by rw [hlen']; simp)
     rw [hlen'] at hfull
     simp only [List.length_nil, List.nil_append] at hfull
     rw [show List.range n = List.range' 0 n from List.range_eq_range' .., hfull]
     have hdrop : List.drop n (List.replicate n (Z0Y (E.rows e) z)) = [] := by simp
     rw [hdrop, List.append_nil, Z74, ZkG, ZdT H _ (ZiX hvs)]
     simp [toV, Z0F, ZK, c7]
    ·simp [Tr.Zz] at h
   ·simp [Tr.Zz] at h
  ·simp [Tr.Zz] at h
 ·simp [Tr.Zz] at h
theorem Zpq {E : Env} {s : TypeId} {x y : SV U.Ty} {f : Nat} (h : ZhF E s x f = some y) : Z85 E s (toV U x) f = some (toV U y) := by
 unfold ZhF at h
 unfold Z85
 split at h
 ·rename_i fs sz by' z0 hti
  rw [hti]
  simp only
  split at h
  ·rename_i o t ho
   rw [ho]
   simp only
   split at h
   ·rename_i n hn
    simp only [hn]
    split at h
    ·cases h
    ·rename_i hz
     rw [if_neg hz]
     split at h
     ·simp only [Option.some.injEq] at h; subst h; rfl
     ·simp only [Option.some.injEq] at h; subst h; rfl
     ·simp only [Option.some.injEq] at h; subst h; rfl
     ·cases h
   ·cases h
  ·cases h
 ·cases h
theorem Zw7 {E : Env} {s : TypeId} {x y : SV U.Ty} {f : Nat} (h : Zw1 E s x f = some y) : Znj E s (toV U x) f = some (toV U y) := by
 unfold Zw1 at h
 unfold Znj
 split at h
 ·rename_i fs sz by' z0 cs hti
  rw [hti]
  simp only [toV]
  split at h
  ·rename_i o t ho
   rw [ho]
   simp only
   split at h
   ·rename_i i hi
    simp only [hi, ZgA, h, Option.map_some]
   ·cases h
  ·cases h
 ·cases h
theorem Z9p {L : Type} {n : Int} {lit : Bool} {len : Nat} {k : Nat -> Tr U L} {y : L} (h : (Zim n lit len k).Zz y) : (0 <= n /\ n < len) /\ (k n.toNat).Zz y := by
 unfold Zim at h
 split at h
 ·split at h
  ·rename_i hn; exact ⟨hn, h⟩
  ·simp [Tr.Zz] at h
 ·revert h
  suffices hh : ∀ l : List Nat, (∀ i ∈ l, i < len) -> (l.foldr (fun (i : Nat) rest => Tr.br (n == (i : Int)) (k i) rest) .fail).Zz y -> (0 <= n /\ n < len) /\ (k n.toNat).Zz y from
   fun h => hh _ (fun i hi => by simpa using hi) h
  intro l
  induction l with
  | nil => intro _ h; simp [Tr.Zz] at h
  | cons i l ih =>
   intro hl h
   simp only [List.foldr_cons, Tr.Zz, beq_iff_eq] at h
   rcases h with ⟨hn, hr⟩ | ⟨_, hr⟩
   ·have := hl i (by simp)
    have hi : n.toNat = i := by omega
    rw [hi]
    exact ⟨by omega, hr⟩
   ·exact ih (fun j hj => hl j (by simp [hj])) hr
theorem Zpi {E : Env} {H : ZE U} {t : TypeId} {x i y : SV U.Ty} (h : (Zie E H t x i).Zz y) : Z4c E (toH U H) t (toV U x) (toV U i) = some (toV U y) := by
 unfold Zie at h
 unfold Z4c
 split at h
 ·rename_i kk n ti hn hti
  rw [Z3e hn, hti]
  simp only
  split at h
  ·rename_i el hty
   simp only [hty]
   split at h
   ·rename_i et xs
    simp only [ZZ, Tr.Zz, decide_eq_true_eq] at h
    obtain ⟨h1, h2, rfl⟩ := h
    simp only [toV, List.length_map, h2, h1, and_self, if_true]
   ·rename_i et xs
    simp only [ZZ, Tr.Zz, decide_eq_true_eq] at h
    obtain ⟨h1, h2, rfl⟩ := h
    simp only [toV, List.length_map, h2, h1, and_self, if_true]
   ·rename_i id m
    obtain ⟨et, xs, fl, r1, r2, r3, r4⟩ := Z0s h
    simp only [ZZ, Tr.Zz, decide_eq_true_eq] at r3
    obtain ⟨h1, h2, rfl⟩ := r3
    simp only [toV, r4, Z0F, h2, h1, and_self, if_true, Nat.zero_add]
   ·rename_i id off len tot
    obtain ⟨et, xs, fl, r1, r2, r3, r4⟩ := Z0s h
    simp only [ZZ, Tr.Zz, decide_eq_true_eq] at r3
    obtain ⟨h1, h2, rfl⟩ := r3
    simp only [toV, r4, Z0F, h2, h1, and_self, if_true]
   ·simp [Tr.Zz] at h
  ·rename_i len e hty
   simp only [hty]
   split at h
   ·simp [Tr.Zz] at h
   ·rename_i sz hsz
    split at h
    ·obtain ⟨hb, h⟩ := Z9p h
     simp only [Tr.Zz] at h
     subst h
     simp only [toV, hsz, hb, and_self, if_true]
    ·obtain ⟨hb, h⟩ := Z9p h
     simp only [Tr.Zz] at h
     subst h
     simp only [toV, hsz, hb, and_self, if_true]
    ·obtain ⟨hb, h⟩ := Z9p h
     simp only [Tr.Zz] at h
     subst h
     simp only [toV, hsz, hb, and_self, if_true]
    ·simp [Tr.Zz] at h
  ·simp [Tr.Zz] at h
 ·simp [Tr.Zz] at h
theorem Zyr {s : ByteArray} {n : Nat} (h : n < s.size) : s[n]? = some (s.get! n) := by
 rw [getElem?_pos s n h]
 cases s with
 | mk d =>
  have hd : n < d.size := h
  show some d[n] = some d[n]!
  rw [getElem!_pos d n hd]
theorem ZxD {E : Env} {t : TypeId} {x i y : SV U.Ty} (h : (Zxo E t x i).Zz y) : Znb E t (toV U x) (toV U i) = some (toV U y) := by
 unfold Zxo at h
 unfold Znb
 split at h
 ·rename_i kk n hn
  rw [Z3e hn]
  simp only
  split at h
  ·rename_i len e sz by' z0 cs hti
   rw [hti]
   simp only [toV]
   split at h
   ·rename_i ei hei
    obtain ⟨hb, h⟩ := Z9p h
    rw [Z7V] at h
    simp only [hei, hb, and_self, if_true, ZgA, h, Option.map_some]
   ·simp [Tr.Zz] at h
  ·rename_i sz by' z0 hti
   rw [hti]
   split at h
   ·rename_i s hs
    rw [Z5l hs]
    split at h
    ·rename_i hE
     simp only [Tr.Zz, decide_eq_true_eq] at h
     obtain ⟨⟨h1, h2⟩, rfl⟩ := h
     have hlt : n.toNat < s.size := by omega
     simp only [hE, h1, if_true, Zyr hlt, Option.map_some, toV]
    ·simp [Tr.Zz] at h
   ·simp [Tr.Zz] at h
  ·simp [Tr.Zz] at h
 ·simp [Tr.Zz] at h
theorem ZdS {t : Nat} {xs : List (U.Ty t)} {y : SV U.Ty} (h : (Zut t xs).Zz y) :
  U.esz t = 1 /\ ∃ bs, bytesOf (xs.map (U.enc t)) = some bs /\ bs.length <= maxLen /\ y = .ss ⟨bs.toArray⟩ := by
 unfold Zut at h
 simp only [ZZ, Tr.Zz] at h
 obtain ⟨h1, h2, h3⟩ := h
 refine ⟨h1, ?_⟩
 unfold ZdB at h2
 unfold strOf at h3
 split at h2
 ·rename_i bs hbs
  refine ⟨bs, hbs, by simpa using h2, ?_⟩
  rw [<- h3, hbs]
  rfl
 ·cases h2
theorem Zx9 {E : Env} {H : ZE U} {src dst : TypeId} {x y : SV U.Ty} (h : (ZwE E H src dst x).Zz y) : Zcb E (toH U H) src dst (toV U x) = some (toV U y, toH U H) := by
 unfold ZwE at h
 simp only [ZZ] at h
 obtain ⟨hb, h⟩ := h
 simp only [Bool.and_eq_true] at hb
 split at h
 ·simp only [Tr.Zz] at h
  subst h
  simp [Zcb, toV, hb, Z3w, elemsOf, bytesOf]
 ·obtain ⟨h1, bs, h2, h3, rfl⟩ := ZdS h
  simp [Zcb, toV, hb, Z3w, elemsOf, h1, h2, h3]
 ·obtain ⟨h1, bs, h2, h3, rfl⟩ := ZdS h
  simp [Zcb, toV, hb, Z3w, elemsOf, h1, h2, h3]
 ·obtain ⟨t, xs, fl, h1, h2, h3, h4⟩ := Z0s h
  obtain ⟨h5, bs, h6, h7, rfl⟩ := ZdS h3
  subst h2
  rename_i id
  have he : elemsOf (toH U H) (toV U (.all id xs.length)) = some (xs.map (U.enc t)) := by
   simp only [toV, elemsOf, h4]
   simp only [Z0F, Nat.zero_add, Nat.le_refl, decide_true, Bool.and_self, if_true, List.drop_zero, Option.some.injEq]
   exact List.take_of_length_le (by simp)
  simp only [toV] at he
  simp only [Zcb, toV, hb, he, Z3w, h4, Z0F, h5, Bool.and_self, beq_self_eq_true, if_true, h6, if_pos h7]
 ·obtain ⟨t, xs, fl, h1, h2, h3, h4⟩ := Z0s h
  simp only [Tr.Zz, decide_eq_true_eq] at h3
  obtain ⟨hle, h3⟩ := h3
  obtain ⟨h5, bs, h6, h7, rfl⟩ := ZdS h3
  rename_i id off len tot
  have he : elemsOf (toH U H) (toV U (.lsl id off len tot)) = some ((((xs.drop off).take len)).map (U.enc t)) := by
   simp only [toV, elemsOf, h4]
   simp [Z0F, hle, List.map_take, List.map_drop]
  simp only [toV] at he
  simp only [Zcb, toV, hb, he, Z3w, h4, Z0F, h5, Bool.and_self, beq_self_eq_true, if_true, h6, if_pos h7]
 ·simp [Tr.Zz] at h
theorem Zyy {E : Env} {H : ZE U} {src dst : TypeId} {x y : SV U.Ty} (h : (ZzY E H src dst x).Zz y) : Zcb E (toH U H) src dst (toV U x) = some (toV U y, toH U H) := by
 unfold ZzY at h
 split at h
 ·rename_i k n hn
  rw [Z3e hn]
  unfold Zcb
  split at h
  ·rename_i j hj
   simp only [hj]
   split at h
   ·rename_i hs
    simp only [Tr.Zz] at h
    subst h
    simp [hs, toV]
   ·simp [Tr.Zz] at h
  ·simp [Tr.Zz] at h
 ·split at h
  ·rename_i s hs
   rw [Z5l hs]
   unfold Zcb
   split at h
   ·rename_i hb
    simp only [Tr.Zz] at h
    subst h
    simp only [Bool.and_eq_true] at hb
    simp [hb, toV]
   ·simp [Tr.Zz] at h
  ·exact Zx9 h
end
end Go.Proofs.YtefmbgacbhifdaaGreat.Le
namespace Go.Proofs.YtefmbgacbhifdaaGreat.Le
section
variable {U : Z9c}
theorem ZpJ {H : ZE U} {x : SV U.Ty} {e : Nat} {ys : List (U.Ty e)} (h : (Ztj H x e).Zz ys) :
  elemsOf (toH U H) (toV U x) = some (ys.map (U.enc e)) /\ (Z3w (toH U H) (toV U x) (U.esz e) = true) := by
 have go : ∀ (t : Nat) (xs : List (U.Ty t)), (if h : t = e then Tr.leaf (h ▸ xs) else Tr.fail : Tr U (List (U.Ty e))).Zz ys -> ∃ he : t = e, (he ▸ xs : List (U.Ty e)) = ys := by
  intro t xs h
  split at h
  ·rename_i he; exact ⟨he, h⟩
  ·simp [Tr.Zz] at h
 unfold Ztj at h
 simp only at h
 split at h
 ·simp only [Tr.Zz] at h; subst h; exact ⟨rfl, rfl⟩
 ·obtain ⟨rfl, rfl⟩ := go _ _ h
  exact ⟨rfl, by simp [toV, Z3w]⟩
 ·obtain ⟨rfl, rfl⟩ := go _ _ h
  exact ⟨rfl, by simp [toV, Z3w]⟩
 ·obtain ⟨t, xs, fl, h1, h2, h3, h4⟩ := Z0s h
  obtain ⟨rfl, rfl⟩ := go _ _ h3
  subst h2
  refine ⟨?_, by simp [toV, Z3w, h4, Z0F]⟩
  simp only [toV, elemsOf, h4]
  simp only [Z0F, Nat.zero_add, Nat.le_refl, decide_true, Bool.and_self, if_true, List.drop_zero, Option.some.injEq]
  exact List.take_of_length_le (by simp)
 ·obtain ⟨t, xs, fl, h1, h2, h3, h4⟩ := Z0s h
  simp only [Tr.Zz, decide_eq_true_eq] at h3
  obtain ⟨hle, h3⟩ := h3
  obtain ⟨rfl, rfl⟩ := go _ _ h3
  refine ⟨?_, by simp [toV, Z3w, h4, Z0F]⟩
  simp only [toV, elemsOf, h4]
  simp [Z0F, hle, List.map_take, List.map_drop]
 ·simp [Tr.Zz] at h
theorem ZuS {E : Env} {k : Nat} {H H' : ZE U} {t u : TypeId} {s x y : SV U.Ty} (h : (ZrT E k H t u s x).Zz (y, H')) :
  Z8i E k (toH U H) t u (toV U s) (toV U x) = some (toV U y, toH U H') := by
 unfold ZrT at h
 unfold Z8i
 split at h
 ·rename_i e sz by' z0 hti
  rw [hti]
  simp only
  split at h
  ·rename_i ei hei
   simp only [ZZ, Zy] at h
   obtain ⟨⟨rfl, hpos, hz, hes⟩, ys, hys, h⟩ := h
   obtain ⟨e1, e2⟩ := ZpJ hys
   rw [hes] at e2
   simp only [hei, beq_self_eq_true, e1]
   rw [if_pos (by simp [hpos, e2, hz])]
   split at h
   ·rename_i id n
    obtain ⟨t', xs, fl, h1, h2, h3, h4⟩ := Z0s h
    split at h3
    ·rename_i he
     subst he
     simp only [Tr.Zz, Bool.and_eq_true, decide_eq_true_eq, Prod.mk.injEq] at h3
     obtain ⟨⟨l1, l2⟩, rfl, rfl⟩ := h3
     subst h2
     simp only [toV, h4, List.length_map]
     simp only [Z0F, hes, beq_self_eq_true, decide_true, Bool.and_self, if_true, l1, l2, Option.some.injEq, Prod.mk.injEq]
     refine ⟨by simp [toV], ?_⟩
     rw [Zdt]
     simp [Z0F, hes]
    ·simp [Tr.Zz] at h3
   ·simp only [Tr.Zz, Bool.and_eq_true, decide_eq_true_eq, Prod.mk.injEq] at h
    obtain ⟨⟨l1, l2⟩, rfl, rfl⟩ := h
    simp only [toV, List.length_map, l1, l2, decide_true, Bool.and_self, if_true, Option.some.injEq, Prod.mk.injEq, true_and]
    rw [Z74]
    simp [Z0F, ZK, hes]
   ·rename_i t' xs
    split at h
    ·rename_i he
     subst he
     simp only [Tr.Zz, Bool.and_eq_true, decide_eq_true_eq, Prod.mk.injEq] at h
     obtain ⟨⟨l1, l2⟩, h⟩ := h
     simp only [toV, List.length_map, hes, beq_self_eq_true, l1, l2, decide_true, Bool.and_self, if_true]
     rcases h with ⟨hem, rfl, rfl⟩ | ⟨hem, rfl, rfl⟩
     ·simp [hem, toV, hes]
     ·simp only [List.isEmpty_map, hem, Bool.false_eq_true, if_false, Option.some.injEq, Prod.mk.injEq]
      refine ⟨by simp [toV], ?_⟩
      rw [Z74]
      simp [Z0F, ZK, hes]
    ·simp [Tr.Zz] at h
   ·simp [Tr.Zz] at h
  ·simp [Tr.Zz] at h
 ·simp [Tr.Zz] at h
theorem ZxF {E : Env} (hU : Z0n U E) {k : Nat} {H H' : ZE U} {dst : TypeId} {x y : SV U.Ty} (h : (ZxN E k H dst x).Zz (y, H')) : ZjI E k (toH U H) dst (toV U x) = some (toV U y, toH U H') := by
 unfold ZxN at h
 split at h
 ·rename_i st e sz by' z0 hs hti
  simp only [ZZ, Tr.Zz, Prod.mk.injEq] at h
  obtain ⟨⟨h1, h2⟩, hok, rfl, rfl⟩ := h
  have key : ∀ l : List UInt8, (l.all fun b => (U.Zpw e (.si .u8 b.toNat)).isSome) = true -> (l.filterMap fun b => U.Zpw e (.si .u8 b.toNat)).map (U.enc e) = l.map fun c => V.lit (.int .u8 c.toNat) := by
   intro l
   induction l with
   | nil => intro _; rfl
   | cons b l ih =>
    intro hl
    simp only [List.all_cons, Bool.and_eq_true] at hl
    cases hd : U.Zpw e (.si .u8 b.toNat) with
    | none => rw [hd] at hl; cases hl.1
    | some a =>
     have := hU.dec _ _ _ hd
     simp only [toV, Z0Y, Z2a] at this
     rw [List.filterMap_cons, hd]
     simp only [List.map_cons, ih hl.2, this]
  have hmap : (Z2j U e st).map (U.enc e) = bytesV st := key _ hok
  have hlen : (Z2j U e st).length = st.size := by
   have := congrArg List.length hmap
   rw [List.length_map] at this
   rw [this]
   simp only [bytesV, List.length_map]
   exact Array.length_toList
  rw [Z5l hs]
  simp only [ZjI, hti, h1, if_true, toV, hlen, Option.some.injEq, Prod.mk.injEq, true_and]
  rw [Z74]
  simp [Z0F, ZK, h2, hmap]
 ·simp [Tr.Zz] at h
theorem Ztp {x : SV U.Ty} {v : Value} (h : ZDn x = some v) : toV U x = .lit v := by
 unfold ZDn at h
 split at h <;> simp_all [toV]
theorem Zzj {E : Env} {L : Type} (hU : Z0n U E) {t : Nat} {xs : List (U.Ty t)} {r : L} : ∀ {n i : Nat} {k : List Value -> Tr U L}, (Zz6 xs i n k).Zz r -> ∃ vs, ((xs.drop i).take n).map (U.enc t) = vs.map V.lit /\ vs.length = n /\ (k vs).Zz r := by
 intro n
 induction n with
 | zero => intro i k h; exact ⟨[], by simp, rfl, h⟩
 | succ n ih =>
  intro i k h
  simp only [Zz6, Tr.Zz] at h
  obtain ⟨x, hx, h⟩ := h
  split at h
  ·rename_i v hv
   obtain ⟨vs, h1, h2, h3⟩ := ih h
   obtain ⟨hi, hx'⟩ := List.getElem?_eq_some_iff.1 hx
   refine ⟨v :: vs, ?_, by simp [h2], h3⟩
   rw [List.drop_eq_getElem_cons hi, List.take_succ_cons, List.map_cons, List.map_cons, h1, hx', <- hU.encS, Ztp hv]
  ·simp [Tr.Zz] at h
theorem ZAm {E : Env} (hU : Z0n U E) {t : TypeId} {x y : SV U.Ty} (h : (arrT E t x).Zz y) : ZBq E t (toV U x) = some (toV U y) := by
 unfold arrT at h
 split at h
 ·rename_i n e sz by' z0 t' xs hti
  simp only [ZZ] at h
  obtain ⟨⟨c1, c2, c3⟩, h⟩ := h
  obtain ⟨vs, h1, h2, h3⟩ := Zzj hU h
  simp only [Tr.Zz] at h3
  subst h3
  rw [List.drop_zero] at h1
  unfold ZBq
  have hlen : n <= xs.length := by
   have := congrArg List.length h1
   simp only [List.length_map, List.length_take] at this
   omega
  have htk : (xs.map (U.enc t')).take n = vs.map V.lit := by rw [<- List.map_take, h1]
  have hall : (vs.map V.lit).all Zae = true := by simp [List.all_eq_true, Zae]
  simp only [hti, toV, c1, c2, c3, htk, List.length_map, hlen, hall, and_self, if_true]
 ·simp [Tr.Zz] at h
theorem ZpA {hi : Option (SV U.Ty)} {n m : Nat} (h : Zl8 hi n = some m) : Z21 (hi.map (toV U)) n n = some m := by
 unfold Zl8 at h
 split at h
 ·simpa [Z21] using h
 ·simpa [Z21, Z7o, toV] using h
 ·cases h
theorem Zuy {E : Env} (hU : Z0n U E) {H H' : ZE U} {n e : Nat} {x y : SV U.Ty} {lo hi mx : Option (SV U.Ty)} (h : (ZrP E H n e x lo hi mx).Zz (y, H')) :
  ZeT E (toH U H) n e (toV U x) (lo.map (toV U)) (hi.map (toV U)) (mx.map (toV U)) = some (toV U y, toH U H') := by
 unfold ZrP at h
 split at h
 ·rename_i id i off tot m hm
  split at h
  ·rename_i e' k cs hb
   split at h
   ·rename_i ys hys
    simp only [ZZ, Tr.Zz, Prod.mk.injEq] at h
    obtain ⟨⟨⟨rfl, rfl, rfl, c4, c5⟩, c6, c7, c8⟩, rfl, rfl⟩ := h
    obtain ⟨d1, d2⟩ := ZpS hU hys
    have hsc : ∀ c ∈ cs, ∃ v, toV U c = .lit v := fun c hc => by
     have := List.all_eq_true.1 c8 c hc
     obtain ⟨v, hv⟩ := Option.isSome_iff_exists.1 this
     exact ⟨v, Ztp hv⟩
    have hre : (ZY U cs).map (Z0Y (E.rows e)) = ZY U cs := by
     rw [Z0H, List.map_map]
     apply List.map_congr_left
     intro c hc
     obtain ⟨v, hv⟩ := hsc c hc
     simp only [Function.comp, hv, Z0Y, Z2a]
    rw [hre] at d1
    have hall : (ZY U cs).all Zae = true := by
     rw [Z0H, List.all_eq_true]
     intro y hy
     obtain ⟨c, hc, rfl⟩ := List.mem_map.1 hy
     obtain ⟨v, hv⟩ := hsc c hc
     rw [hv]; rfl
    have hlen : (ZY U cs).length = n := by rw [Z0H, List.length_map, c4]
    have hbx := Zkb hb
    unfold ZeT
    simp only [toV, Option.map_none, ZpA hm, hbx, ZK]
    rw [if_pos ⟨trivial, trivial, hlen, c5, c6, hall⟩]
    simp only [Option.some.injEq, Prod.mk.injEq, c7, List.map_take, d1, true_and]
    rw [Zdt]
    simp only [bump]
    apply List.ext_getElem?
    intro j
    rw [List.getElem?_modify, List.getElem?_set]
    by_cases hj : id = j
    ·subst hj
     have hlt : id < H.length := (List.getElem?_eq_some_iff.1 hb).1
     rw [Z8f, hb]
     simp [Z0F, ZK, toV, Z6o, hlt]
    ·simp [hj]
   ·simp [Tr.Zz] at h
  ·simp [Tr.Zz] at h
 ·simp [Tr.Zz] at h
theorem ZyI {E : Env} {H H' : ZE U} {t u : TypeId} {d x y : SV U.Ty} (h : (ZBf E H t u d x).Zz (y, H')) :
  Zwr E (toH U H) t u (toV U d) (toV U x) = some (toV U y, toH U H') := by
 unfold ZBf at h
 unfold Zwr
 split at h
 ·rename_i e sz by' z0 hti
  rw [hti]
  simp only
  split at h
  ·rename_i ei hei
   simp only [ZZ, Zy] at h
   obtain ⟨hes, ys, hys, h⟩ := h
   obtain ⟨e1, e2⟩ := ZpJ hys
   rw [hes] at e2
   simp only [hei, e1]
   split at h
   ·rename_i id n
    obtain ⟨t', xs, fl, h1, h2, h3, h4⟩ := Z0s h
    split at h3
    ·rename_i he
     subst he
     simp only [ZZ, Tr.Zz, Prod.mk.injEq] at h3
     obtain ⟨hfl, rfl, rfl⟩ := h3
     subst h2
     simp only [toV, h4]
     simp only [Z0F, hes, hfl, beq_self_eq_true, decide_true, Bool.and_self, e2, if_true, Option.some.injEq, Prod.mk.injEq, List.length_map]
     refine ⟨by simp [toV], ?_⟩
     rw [Zdt]
     simp [Z0F, hes, hfl, List.map_take, List.map_drop]
    ·simp [Tr.Zz] at h3
   ·simp [Tr.Zz] at h
  ·simp [Tr.Zz] at h
 ·simp [Tr.Zz] at h
theorem Zt8 {L : Type} {H : ZE U} {x : SV U.Ty} {k : Nat -> Tr U L} {y : L} (h : (Zlw H x k).Zz y) : ∃ n, lenOf (toH U H) (toV U x) = some n /\ (k n).Zz y := by
 unfold Zlw at h
 split at h
 ·rename_i id n
  obtain ⟨t, xs, fl, h1, h2, h3, h4⟩ := Z0s h
  exact ⟨n, by simp [toV, lenOf, h4], h3⟩
 ·rename_i id off len tot
  obtain ⟨t, xs, fl, h1, h2, h3, h4⟩ := Z0s h
  exact ⟨len, by simp [toV, lenOf, h4], h3⟩
 ·split at h
  ·rename_i n hn
   refine ⟨n, ?_, h⟩
   unfold lenT at hn
   split at hn <;> simp_all [toV, lenOf]
  ·simp [Tr.Zz] at h
theorem Zlg {L : Type} {H : ZE U} {x : SV U.Ty} {k : Nat -> Tr U L} {y : L} (h : (Zlw H x k).Zz y) : ∀ v, x ≠ .raw v := by
 rintro v rfl
 simp [Zlw, lenT, Tr.Zz] at h
theorem ZzD {x : SV U.Ty} (hx : ∀ v, x ≠ .raw v) (h : ZkK x = false) : ∀ s, toV U x ≠ .lit (.string s) := by
 intro s hs
 unfold ZkK at h
 cases x with
 | raw v => exact hx v rfl
 | lit v => simp only [toV, V.lit.injEq] at hs; subst hs; simp [ZfF] at h
 | ss b => simp [ZfF] at h
 | _ => simp [toV] at hs
theorem Zwk {x : SV U.Ty} (h : ZkK x = true) : ∃ s, ZfF x = some s /\ toV U x = .lit (.string s) := by
 unfold ZkK at h
 cases hs : ZfF x with
 | none => simp [hs] at h
 | some s => exact ⟨s, rfl, Z5l hs⟩
theorem Zva {E : Env} {t : TypeId} {x : SV U.Ty} (hx : ∀ v, x ≠ .raw v) : Zox E t (toV U x) = ZoD E t x := by
 unfold Zox ZoD
 by_cases hs : ZkK x = true
 ·obtain ⟨s, _, h⟩ := Zwk hs
  rw [h, if_pos hs]
 ·rw [if_neg hs]
  have := ZzD hx (by simpa using hs)
  split
  ·rename_i s h; exact absurd h (this s)
  ·rfl
theorem Zwi {E : Env} {H : ZE U} {x : SV U.Ty} {n : Nat} {L : Type} {k : Nat -> Tr U L} {y : L} (hl : (Zlw H x k).Zz y) (h : ZvJ E H x n = true) : Z3w (toH U H) (toV U x) n = true := by
 unfold ZvJ at h
 split at h
 ·simp [toV, Z3w]
 ·simpa [toV, Z3w] using h
 ·simpa [toV, Z3w] using h
 ·rename_i id m
  unfold Zlw at hl
  obtain ⟨t, xs, fl, h1, h2, h3, h4⟩ := Z0s hl
  simp only [h1] at h
  simpa [toV, Z3w, h4, Z0F] using h
 ·rename_i id off len tot
  unfold Zlw at hl
  obtain ⟨t, xs, fl, h1, h2, h3, h4⟩ := Z0s hl
  simp only [h1] at h
  simpa [toV, Z3w, h4, Z0F] using h
 ·cases h
theorem Zra {E : Env} {H : ZE U} {t : TypeId} {x : SV U.Ty} {L : Type} {k : Nat -> Tr U L} {y : L} (hl : (Zlw H x k).Zz y) (h : Zii E H t x = true) : Z7h E (toH U H) t (toV U x) = true := by
 have hx := Zlg hl
 unfold Zii at h
 unfold Z7h
 split at h
 ·rename_i hs
  obtain ⟨s, _, he⟩ := Zwk hs
  rw [he]
  exact h
 ·rename_i hs
  have hno := ZzD hx (by simpa using hs)
  split
  ·rename_i s he; exact absurd he (hno s)
  ·split at h
   ·rename_i e _ _ _ hti
    split at h
    ·rename_i ei hei
     simp only [hti, hei]
     exact Zwi hl h
    ·cases h
   ·cases h
theorem Zkq {L : Type} {x : Option (SV U.Ty)} {hi d : Nat} {k : Nat -> Tr U L} {y : L} (h : (Zrg x hi d k).Zz y) : ∃ n, Z21 (x.map (toV U)) hi d = some n /\ (k n).Zz y := by
 unfold Zrg at h
 split at h
 ·exact ⟨d, rfl, h⟩
 ·rename_i v
  split at h
  ·rename_i kk n hn
   simp only [Tr.Zz, decide_eq_true_eq] at h
   refine ⟨n.toNat, ?_, h.2⟩
   simp [Z21, Z3e hn, Z7o, h.1]
  ·simp [Tr.Zz] at h
theorem ZxQ {E : Env} {H H' : ZE U} {t : TypeId} {x y : SV U.Ty} {lo hi mx : Option (SV U.Ty)} (h : (sliceT E H t x lo hi mx).Zz (y, H')) :
  Zcu E (toH U H) t (toV U x) (lo.map (toV U)) (hi.map (toV U)) (mx.map (toV U)) = some (toV U y, toH U H') := by
 unfold sliceT at h
 unfold Zcu
 split at h
 ·rename_i hfit
  have hl := h
  have hraw := Zlg hl
  rw [if_pos (Zra hl hfit)]
  obtain ⟨n, hn, ha⟩ := Zt8 hl
  rw [hn]
  obtain ⟨hh, eh, hb⟩ := Zkq ha
  obtain ⟨l, el, hc⟩ := Zkq hb
  simp only [eh, el]
  clear h ha hb
  revert hc
  intro h
  split at h
  ·rename_i m
   split at h
   ·simp [Tr.Zz] at h
   ·rename_i xh
    obtain ⟨kk, ek, hd⟩ := Zkq h
    clear h
    revert hd
    intro h
    simp only [Tr.Zz, beq_iff_eq] at h
    obtain ⟨rfl, h⟩ := h
    simp only [Option.map_some, Z21] at ek
    simp only [Option.map_some, ek]
    split at h
    ·rename_i e xs
     simp only [Tr.Zz, Prod.mk.injEq] at h
     obtain ⟨rfl, rfl⟩ := h
     simp [toV, elemsOf, List.map_take, List.map_drop]
    ·rename_i e xs
     simp only [Tr.Zz, Prod.mk.injEq] at h
     obtain ⟨rfl, rfl⟩ := h
     simp [toV, elemsOf, List.map_take, List.map_drop]
    ·rename_i id n'
     obtain ⟨e, xs, fl, h1, h2, h3, h4⟩ := Z0s h
     simp only [Tr.Zz, Prod.mk.injEq] at h3
     obtain ⟨rfl, rfl⟩ := h3
     subst h2
     have hg : (toH U H).getD id default = Z0F U (.row e xs fl) := by simp [List.getD, Z8f, h1]
     have hel : elemsOf (toH U H) (.lsl id 0 xs.length xs.length) = some (xs.map (U.enc e)) := by
      simp only [elemsOf, h4]
      simp only [Z0F, Nat.zero_add, Nat.le_refl, decide_true, Bool.and_self, if_true, List.drop_zero]
      rw [List.take_of_length_le (by simp)]
     simp only [toV, hel, if_true, hg]
     simp only [Z0F, Option.some.injEq, Prod.mk.injEq]
     refine ⟨by simp [List.map_take, List.map_drop], ?_⟩
     rw [ZdT H [id] (by intro i hi; simp at hi; subst hi; exact ⟨_, _, _, h1⟩)]
    ·simp [Tr.Zz] at h
  ·simp only [Option.map_none]
   split at h
   ·simp only [Tr.Zz, Prod.mk.injEq] at h
    obtain ⟨rfl, rfl⟩ := h
    simp [toV]
   ·simp only [Tr.Zz, Prod.mk.injEq] at h
    obtain ⟨rfl, rfl⟩ := h
    simp [toV, List.map_take, List.map_drop]
   ·simp only [Tr.Zz, Prod.mk.injEq] at h
    obtain ⟨rfl, rfl⟩ := h
    simp [toV, List.map_take, List.map_drop]
   ·rename_i id n'
    have hnn : n = n' := by
     unfold Zlw at hl
     obtain ⟨e, xs, fl, h1, h2, h3, h4⟩ := Z0s hl
     simpa [toV, lenOf, h4] using hn.symm
    subst hnn
    split at h
    ·simp only [Tr.Zz, Prod.mk.injEq] at h
     obtain ⟨rfl, rfl⟩ := h
     simp only [Option.map_none, Z21, Option.some.injEq] at eh el
     subst eh
     subst el
     simp [toV]
    ·simp only [Tr.Zz, Prod.mk.injEq] at h
     obtain ⟨rfl, rfl⟩ := h
     simp [toV]
   ·simp only [Tr.Zz, Prod.mk.injEq] at h
    obtain ⟨rfl, rfl⟩ := h
    simp [toV]
   ·split at h
    ·rename_i s hs
     simp only [Tr.Zz, Prod.mk.injEq] at h
     obtain ⟨rfl, rfl⟩ := h
     simp [Z5l hs, toV]
    ·simp [Tr.Zz] at h
 ·simp [Tr.Zz] at h
def Zl7 (U : Z9c) (M : Mdl U) (call : Z1Y) : Prop :=
 ∀ g as H v H', (M g as H).Zz (v, H') -> call g (ZY U as) (toH U H) = some (toV U v, toH U H')
theorem Z6A {H H' : ZE U} {T : Tr U (SV U.Ty)} {y : SV U.Ty} (h : (Zsa H T).Zz (y, H')) : T.Zz y /\ H' = H := by
 simp only [Zsa, Zy, Tr.Zz, Prod.mk.injEq] at h
 obtain ⟨x, h1, rfl, rfl⟩ := h
 exact ⟨h1, rfl⟩
theorem Zyi {E : Env} {M : Mdl U} {call : Z1Y} (hU : Z0n U E) (hM : Zl7 U M call) {k : Nat} {H H' : ZE U} {s : List (SV U.Ty)} {c : Call} {o : Oper} {y : SV U.Ty} (hop : o.op = .call c) (h : (ZAX E M k H s c).Zz (y, H')) :
  opD call E k (toH U H) (ZY U s) o = some (toV U y, toH U H') := by
 unfold opD
 rw [hop]
 simp only
 unfold ZAX at h
 have hargs : evs E (ZY U s) c.args = ZY U (c.args.toList.map (evS E s)) := Zwg E s c.args.toList
 split at h
 ·rename_i b hb
  rw [hb]
  simp only
  rw [hargs]
  unfold Z82
  split at h
  ·rename_i x t he1 he2
   rw [he1, he2]
   split at h
   ·rename_i hf
    have hraw := Zlg h
    obtain ⟨n, hn, h⟩ := Zt8 h
    simp only [Tr.Zz, Prod.mk.injEq] at h
    obtain ⟨rfl, rfl⟩ := h
    simp only [ZY, Zva hraw, hf, if_true, hn, Option.map_some, toV]
    rfl
   ·simp [Tr.Zz] at h
  ·rename_i a x t u he1 he2
   rw [he1, he2]
   simp only [ZY]
   exact ZuS h
  ·rename_i a x t u he1 he2
   rw [he1, he2]
   simp only [ZY]
   exact ZyI h
  ·obtain ⟨h1, rfl⟩ := Z6A h
   simp only [ZnD h1, Option.map_some]
  ·obtain ⟨h1, rfl⟩ := Z6A h
   simp only [ZnD h1, Option.map_some]
  ·simp [Tr.Zz] at h
 ·rename_i f hf
  rw [hf]
  simp only
  rw [Z3f]
  split at h
  ·rename_i g first caps hg
   rw [hg]
   simp only [toV]
   have hall : ZY U first ++ evs E (ZY U s) c.args ++ ZY U caps = ZY U (first ++ c.args.toList.map (evS E s) ++ caps) := by
    rw [hargs]; simp only [Z0H, List.map_append]
   rw [hall]
   exact hM _ _ _ _ _ h
  ·simp [Tr.Zz] at h
 ·simp [Tr.Zz] at h
theorem Zqu {E : Env} {s : List (SV U.Ty)} (ps : List (Nat × Operand)) : (ps.map fun (i, x) => (i, ev E (ZY U s) x)) = Zal (ps.map fun (i, x) => (i, evS E s x)) := by
 simp [Zal, Z3f]
theorem optEv {E : Env} {s : List (SV U.Ty)} (x : Option Operand) : x.map (ev E (ZY U s)) = (x.map (evS E s)).map (toV U) := by
 cases x <;> simp [Z3f]
theorem ZBS {E : Env} {M : Mdl U} {call : Z1Y} (hU : Z0n U E) (hM : Zl7 U M call) {k : Nat} {H H' : ZE U} {s : List (SV U.Ty)} {o : Oper} {y : SV U.Ty} (h : (opT E M k H s o).Zz (y, H')) :
  opD call E k (toH U H) (ZY U s) o = some (toV U y, toH U H') := by
 unfold opT at h
 split at h
 ·rename_i x hop
  simp only [Tr.Zz, Prod.mk.injEq] at h
  obtain ⟨rfl, rfl⟩ := h
  unfold opD
  rw [hop]
  simp only [Z3f]
 ·rename_i hop
  unfold opD
  rw [hop]
  simp only
  split at h
  ·rename_i e _ _ _ hti
   simp only [ZZ, Tr.Zz, Prod.mk.injEq] at h
   obtain ⟨hes, rfl, rfl⟩ := h
   simp only [hti, toV, Z74, Z0F, ZK, hes]
   rfl
  ·simp [Tr.Zz] at h
 ·rename_i x hne hop
  simp only [Tr.Zz, Prod.mk.injEq] at h
  obtain ⟨rfl, rfl⟩ := h
  unfold opD
  rw [hop]
  split <;> simp_all [Z3f]
 ·rename_i c a b hop
  unfold opD
  rw [hop]
  simp only [Z3f]
  split at h
  ·rename_i hc
   simp only [Tr.Zz, Prod.mk.injEq] at h
   obtain ⟨rfl, rfl⟩ := h
   rw [hc]
   simp [toV]
  ·rename_i hc
   simp only [Tr.Zz, Prod.mk.injEq] at h
   obtain ⟨rfl, rfl⟩ := h
   rw [hc]
   simp [toV]
  ·rename_i t hc
   rw [hc]
   simp only [toV]
   split at h
   ·rename_i x' y' hx hy
    simp only [Tr.Zz, Prod.mk.injEq] at h
    obtain ⟨rfl, rfl⟩ := h
    rw [Z6u hx, Z6u hy]
    cases t <;> simp [toV]
   ·simp only [Tr.Zz, Prod.mk.injEq] at h
    rcases h with ⟨rfl, rfl, rfl⟩ | ⟨rfl, rfl, rfl⟩ <;> simp
  ·simp [Tr.Zz] at h
 ·rename_i t hop
  unfold opD
  rw [hop]
  simp only
  split at h
  ·rename_i i hi
   simp only [hi]
   split at h
   ·rename_i z hz
    simp only [ZZ, Tr.Zz, Prod.mk.injEq] at h
    obtain ⟨hc, rfl, rfl⟩ := h
    simp only [hz, hc, and_self, if_true, toV, Z74, Z0F, Zl4]
   ·simp [Tr.Zz] at h
  ·simp [Tr.Zz] at h
 ·rename_i t x hop
  unfold opD
  rw [hop]
  simp only [Z3f]
  split at h
  ·rename_i i hi
   simp only [ZZ, Tr.Zz, Prod.mk.injEq] at h
   obtain ⟨⟨h1, h2⟩, rfl, rfl⟩ := h
   simp only [hi, Z8U h2, Z0p, h1, Zb4 h2, and_self, if_true, toV, Z74, Z0F]
  ·simp [Tr.Zz] at h
 ·rename_i t ps hop
  obtain ⟨h1, rfl⟩ := Z6A h
  rw [Z7V] at h1
  unfold opD
  rw [hop]
  simp only [Zqu, ZvG h1, Option.map_some]
 ·rename_i t n ps hop
  unfold opD
  rw [hop]
  simp only [Zqu]
  exact ZmS hU h
 ·rename_i t a hop
  obtain ⟨h1, rfl⟩ := Z6A h
  unfold opD
  rw [hop]
  simp only [Z3f, ZsU hU h1, Option.map_some]
 ·rename_i t a v hop
  simp only [Zy, Tr.Zz, Prod.mk.injEq] at h
  obtain ⟨H1, h1, rfl, rfl⟩ := h
  unfold opD
  rw [hop]
  simp only [Z3f, ZvP hU h1, Option.map_some]
  rfl
 ·rename_i x hop
  unfold opD
  rw [hop]
  simp only [Z3f]
  split at h
  ·rename_i hx
   simp only [Tr.Zz, Prod.mk.injEq] at h
   obtain ⟨rfl, rfl⟩ := h
   simp [hx, toV, Zkp]
  ·rename_i hx
   simp only [Tr.Zz, Prod.mk.injEq] at h
   obtain ⟨rfl, rfl⟩ := h
   simp [hx, toV, Zkp]
  ·rename_i hx
   simp only [Tr.Zz, Prod.mk.injEq] at h
   obtain ⟨rfl, rfl⟩ := h
   simp [hx, toV, Zkp]
  ·rename_i hx
   simp only [Tr.Zz, Prod.mk.injEq] at h
   obtain ⟨rfl, rfl⟩ := h
   simp [hx, toV, Zkp]
  ·simp [Tr.Zz] at h
 ·rename_i op t x z _ hop
  obtain ⟨h1, rfl⟩ := Z6A h
  unfold opD
  rw [hop]
  simp only [Z3f, ZBd h1, Option.map_some]
 ·rename_i op _ x hop
  obtain ⟨h1, rfl⟩ := Z6A h
  unfold opD
  rw [hop]
  simp only [Z3f, ZD7 h1, Option.map_some]
 ·rename_i src dst x hop
  unfold opD
  rw [hop]
  simp only [Z3f]
  split at h
  ·rename_i hb
   rw [if_pos hb]
   exact ZxF hU h
  ·rename_i hb
   rw [if_neg hb]
   obtain ⟨h1, rfl⟩ := Z6A h
   simp only [Zyy h1]
 ·rename_i t l c hop
  unfold opD
  rw [hop]
  simp only [Z3f]
  split at h
  ·rename_i e _ _ _ hti
   simp only [hti]
   split at h
   ·rename_i n _ m _ ei hn hm hei
    obtain ⟨k1, hn'⟩ := ZqH hn
    obtain ⟨k2, hm'⟩ := ZqH hm
    simp only [hn', hm', hei]
    split at h
    ·rename_i z hz
     simp only [hz]
     split at h
     ·rename_i y0 hy0
      simp only [ZZ, Tr.Zz, decide_eq_true_eq, Prod.mk.injEq] at h
      obtain ⟨⟨c1, c2, c3, c4⟩, ⟨c5, c6, c7, c8⟩, rfl, rfl⟩ := h
      have hd := hU.dec _ _ _ hy0
      rw [Zl4] at hd
      rw [if_pos ⟨c5, c6, c7, c8, c1, c2, c3⟩]
      simp only [toV, Z74, Z0F, ZK, c4, hd, List.map_replicate, List.length_replicate]
      rfl
     ·simp [Tr.Zz] at h
    ·simp [Tr.Zz] at h
   ·simp [Tr.Zz] at h
  ·simp [Tr.Zz] at h
 ·rename_i t x lo hi mx hop
  unfold opD
  rw [hop]
  simp only [Z3f, optEv]
  split at h
  ·rename_i n e sz by' z0 hti
   rw [hti]
   exact Zuy hU h
  ·rename_i hna
   split
   ·rename_i n e sz by' z0 hti
    exact absurd hti (hna n e sz by' z0)
   ·exact ZxQ h
 ·rename_i t x hop
  obtain ⟨h1, rfl⟩ := Z6A h
  unfold opD
  rw [hop]
  simp only [Z3f, ZAm hU h1, Option.map_some]
 ·rename_i t x f hop
  obtain ⟨h1, rfl⟩ := Z6A h
  rw [Z7V] at h1
  unfold opD
  rw [hop]
  simp only [Z3f, Zpq h1, Option.map_some]
 ·rename_i t x f hop
  obtain ⟨h1, rfl⟩ := Z6A h
  rw [Z7V] at h1
  unfold opD
  rw [hop]
  simp only [Z3f, Zw7 h1, Option.map_some]
 ·rename_i t x i hop
  obtain ⟨h1, rfl⟩ := Z6A h
  unfold opD
  rw [hop]
  simp only [Z3f, Zpi h1, Option.map_some]
 ·rename_i t x i hop
  obtain ⟨h1, rfl⟩ := Z6A h
  unfold opD
  rw [hop]
  simp only [Z3f, ZxD h1, Option.map_some]
 ·rename_i x i hop
  unfold opD
  rw [hop]
  simp only [Z3f]
  split at h
  ·rename_i vs hv
   obtain ⟨h1, rfl⟩ := Z6A h
   rw [Z7V] at h1
   simp [hv, toV, Z0H, h1]
  ·simp [Tr.Zz] at h
 ·rename_i f first caps hop
  simp only [Tr.Zz, Prod.mk.injEq] at h
  obtain ⟨rfl, rfl⟩ := h
  unfold opD
  rw [hop]
  simp only [toV, evs, Zwg]
 ·rename_i c hop
  exact Zyi hU hM hop h
 ·simp [Tr.Zz] at h
theorem Zps {E : Env} {M : Mdl U} {call : Z1Y} (hU : Z0n U E) (hM : Zl7 U M call) {ops : Array Oper} {k i : Nat} {st st' : SSt U} (h : (stepT E M ops k i st).Zz st') :
  Z9n call E ops k i (Z45 U st) = some (Z45 U st') := by
 unfold stepT at h
 unfold Z9n
 split at h
 ·rename_i ho
  simp only [Tr.Zz] at h
  subst h
  rw [ho]
 ·rename_i o ho
  rw [ho]
  simp only at h ⊢
  have run : ∀ (q : SSt U), ((opT E M k q.H q.s o).andThen fun r => Tr.leaf (⟨ZzP q.s o.dst r.1, r.2⟩ : SSt U)).Zz st' -> ∃ v H1, opD call E k (toH U q.H) (ZY U q.s) o = some (v, H1) /\ (⟨setSlot (ZY U q.s) o.dst v, H1⟩ : St) = Z45 U st' := by
   intro q hq
   simp only [Zy, Tr.Zz] at hq
   obtain ⟨⟨v, H1⟩, h1, rfl⟩ := hq
   exact ⟨_, _, ZBS hU hM h1, by simp only [Z45, ZwL]⟩
  have skip : ∀ (q : SSt U), (Tr.leaf (⟨ZzP q.s o.dst .no, q.H⟩ : SSt U) : Tr U (SSt U)).Zz st' -> (⟨setSlot (ZY U q.s) o.dst Z0X, toH U q.H⟩ : St) = Z45 U st' := by
   intro q hq
   simp only [Tr.Zz] at hq
   subst hq
   simp only [Z45, ZwL]
   rfl
  unfold Zio
  cases hg : o.guard with
  | none =>
   simp only [hg] at h
   obtain ⟨v, H1, h1, h2⟩ := run st h
   simp only [Z45, h1]
   rw [h2]
   rfl
  | some jw =>
   obtain ⟨j, want⟩ := jw
   simp only [hg] at h
   split at h
   ·simp [Tr.Zz] at h
   ·rename_i d hd
    simp only [hd]
    rw [show (Z45 U st).s.getD d .und = toV U (st.s.getD d .und) from ZcR st.s d]
    have fin : ∀ (b : Bool) (q : SSt U), Z45 U q = Z45 U st -> toV U (st.s.getD d .und) = .lit (.bool b) ->
      (if b == want then ((opT E M k q.H q.s o).andThen fun r => Tr.leaf (⟨ZzP q.s o.dst r.1, r.2⟩ : SSt U)) else (Tr.leaf (⟨ZzP q.s o.dst .no, q.H⟩ : SSt U) : Tr U (SSt U))).Zz st' ->
      (match (match Zer (toV U (st.s.getD d .und)) want with
       | none => none
       | some false => some (Z0X, (Z45 U st).H)
       | some true => opD call E k (Z45 U st).H (Z45 U st).s o) with
      | some (v, H) => some (⟨setSlot (Z45 U st).s o.dst v, H⟩ : St)
      | none => none) = some (Z45 U st') := by
     intro b q hq hv hr
     rw [hv, <- hq]
     simp only [Zer]
     split at hr
     ·rename_i hb
      obtain ⟨v, H1, h1, h2⟩ := run q hr
      rw [hb]
      simp only [Z45, h1]
      exact congrArg some h2
     ·rename_i hb
      have := skip q hr
      rw [show (b == want) = false by simpa using hb]
      simp only [Z45]
      exact congrArg some this
    split at h
    ·rename_i hs
     rw [hs]
     have := skip st h
     simp only [toV, Zer, Z45]
     exact congrArg some this
    ·rename_i hs
     refine fin true st rfl (by rw [hs]; rfl) ?_
     cases want <;> exact h
    ·rename_i hs
     refine fin false st rfl (by rw [hs]; rfl) ?_
     cases want <;> exact h
    ·rename_i b hs
     have hsame : ∀ b', b = b' -> Z45 U (⟨st.s.set d (.lit (.bool b')), st.H⟩ : SSt U) = Z45 U st := by
      rintro b' rfl
      simp only [Z45, St.mk.injEq, and_true]
      rw [Z0H, Z0H, List.map_set]
      apply List.ext_getElem?
      intro n
      rw [List.getElem?_set]
      split
      ·rename_i hdn
       subst hdn
       split
       ·rename_i hlt
        simp only [List.length_map] at hlt
        have : st.s.getD d .und = st.s[d] := by simp [List.getD, hlt]
        rw [this] at hs
        simp [hlt, hs, toV]
       ·rename_i hge
        rw [List.getElem?_eq_none (by simpa using hge)]
      ·rfl
     simp only [Tr.Zz] at h
     rcases h with ⟨rfl, h⟩ | ⟨rfl, h⟩
     ·refine fin true _ (hsame true rfl) (by rw [hs]; rfl) ?_
      cases want <;> exact h
     ·refine fin false _ (hsame false rfl) (by rw [hs]; rfl) ?_
      cases want <;> exact h
    ·simp [Tr.Zz] at h
theorem ZB3 {E : Env} {M : Mdl U} {call : Z1Y} (hU : Z0n U E) (hM : Zl7 U M call) {ops : Array Oper} : ∀ {is : List Nat} {st st' : SSt U}, (opsT E M ops is st).Zz st' -> Zvk call E ops is (Z45 U st) = some (Z45 U st') := by
 intro is
 induction is with
 | nil => intro st st' h; simp only [opsT, Tr.Zz] at h; subst h; rfl
 | cons i is ih =>
  intro st st' h
  simp only [opsT, Zy] at h
  obtain ⟨st1, h1, h2⟩ := h
  have := Zps hU hM h1
  simp only [Zvk, stepD]
  rw [show (Z45 U st).H.length = st.H.length from Z6o st.H, this]
  exact ih h2
theorem ZqE {E : Env} {s : List (SV U.Ty)} {o : Oper} : Z2I E (ZY U s) o = Zqo E s o := by
 unfold Z2I Zqo
 congr 1
 funext x
 rw [Z3f, ZwM]
theorem Zv2 {H : ZE U} {a : SV U.Ty} {k : Nat} (h : ZrL H a k = true) : Zey (toH U H) (toV U a) k = true := by
 unfold ZrL at h
 split at h
 ·rename_i id i off tot
  simp only [Bool.and_eq_true, beq_iff_eq] at h
  obtain ⟨h1, h2⟩ := h
  split at h2
  ·rename_i e n x hb
   simp only [beq_iff_eq] at h2
   simp only [toV, Zey, h1, beq_self_eq_true, Bool.true_and, Z1L, Z8f]
   rw [<- h1, hb]
   simp [Z0F, ZK, h2]
  ·cases h2
 ·rename_i id n
  simp only [Bool.and_eq_true, beq_iff_eq] at h
  obtain ⟨h1, h2⟩ := h
  split at h2
  ·rename_i t xs fl hb
   simp only [toV, Zey, h1, beq_self_eq_true, Bool.true_and, Z8f]
   rw [<- h1, hb]
   simp [Z0F]
  ·cases h2
 ·cases h
theorem Zxm {base k : Nat} {s0 : List (SV U.Ty)} {t : Nat ⊕ Nat} (h : ZtL base s0 t = some k) : Zpm base (ZY U s0) t = some k := by
 cases t with
 | inl j => exact h
 | inr d =>
  unfold ZtL at h
  unfold Zpm
  have : (ZY U s0).getD d .und = toV U (s0.getD d .und) := by
   rw [Z0H]
   simp only [List.getD, List.getElem?_map]
   cases s0[d]? <;> rfl
  simp only at h ⊢
  rw [this]
  split at h
  ·rename_i he
   rw [he]
   exact h
  ·rename_i he
   rw [he]
   exact h
  ·cases h
theorem Zz9 {E : Env} {ms : List Nat} {lt : List (Nat × (Nat ⊕ Nat))} {s0 : List (SV U.Ty)} {base i : Nat} {s : List (SV U.Ty)} {H : ZE U} {o : Oper} (h : ZAJ E ms lt s0 base i s H o = true) : Z7Y E ms lt (ZY U s0) base i (ZY U s) (toH U H) o = true := by
 unfold ZAJ at h
 unfold Z7Y
 rw [List.all_eq_true] at h ⊢
 intro p hp
 have h := h p hp
 cases ht : ZtL base s0 p.2 with
 | none => rw [ht] at h; cases h
 | some k =>
  rw [ht] at h
  simp only at h
  rw [Zxm ht]
  simp only
  have : addrOf E (ZY U s) o = toV U (Zs9 E s o) := by
   unfold addrOf Zs9
   cases Z7X o <;> first | exact Z3f .. | rfl
  rw [this, ZqE]
  split
  ·rename_i he
   rw [if_pos he] at h
   exact Zv2 h
  ·rename_i he
   rw [if_neg he] at h
   exact h
theorem Zxv {E : Env} {M : Mdl U} {call : Z1Y} (hU : Z0n U E) (hM : Zl7 U M call) {ops : Array Oper} {ms : List Nat} {lt : List (Nat × (Nat ⊕ Nat))} {s0 : List (SV U.Ty)} {base m i : Nat} {st st' : SSt U} (h : (ZxI E M ops ms lt s0 base m i st).Zz st') :
  Zaj call E ops ms lt (ZY U s0) base m i (Z45 U st) = some (Z45 U st') := by
 unfold ZxI at h
 unfold Zaj
 split at h
 ·rename_i ho
  simp only [Tr.Zz] at h
  subst h
  rw [ho]
 ·rename_i o ho
  rw [ho]
  simp only [ZZ] at h ⊢
  obtain ⟨h1, h1', h⟩ := h
  rw [Bool.and_eq_true] at h1'
  rw [show Z2I E (Z45 U st).s o = Zqo E st.s o from ZqE, show (Z45 U st).H.length = st.H.length from Z6o st.H, if_pos (by rw [h1, Bool.true_and, Bool.and_eq_true]; exact ⟨Zz9 h1'.1, h1'.2⟩)]
  split at h
  ·rename_i hc
   rw [if_pos hc]
   rw [show (Z45 U st).H[base + i]? = (st.H[base + i]?).map (Z0F U) from Z8f _ _]
   split at h
   ·rename_i b hb
    rw [hb]
    split at h
    ·rename_i hd
     have : b = .dead := by cases b <;> simp_all [ZzA]
     subst this
     simp only [Option.map_some, Z0F, Zdq, Bool.false_eq_true, if_false]
     exact Zps hU hM h
    ·simp [Tr.Zz] at h
   ·simp [Tr.Zz] at h
  ·rename_i hc
   rw [if_neg hc]
   exact Zps hU hM h
theorem Zu6 {E : Env} {M : Mdl U} {call : Z1Y} (hU : Z0n U E) (hM : Zl7 U M call) {ops : Array Oper} {ms : List Nat} {lt : List (Nat × (Nat ⊕ Nat))} {s0 : List (SV U.Ty)} {base m : Nat} : ∀ {is : List Nat} {st st' : SSt U}, (ZlC E M ops ms lt s0 base m is st).Zz st' ->
  ZbP call E ops ms lt (ZY U s0) base m is (Z45 U st) = some (Z45 U st') := by
 intro is
 induction is with
 | nil => intro st st' h; simp only [ZlC, Tr.Zz] at h; subst h; rfl
 | cons i is ih =>
  intro st st' h
  simp only [ZlC, Zy] at h
  obtain ⟨st1, h1, h2⟩ := h
  simp only [ZbP, Zxv hU hM h1]
  exact ih h2
theorem Zy4 {E : Env} {M : Mdl U} {call : Z1Y} (hU : Z0n U E) (hM : Zl7 U M call) {ops : Array Oper} {st st' : SSt U} (h : (Zya E M ops st).Zz st') : ZsA call E ops (Z45 U st) = some (Z45 U st') := by
 unfold Zya at h
 unfold ZsA
 have := Zu6 hU hM h
 rw [show (Z45 U st).H.length = st.H.length from Z6o st.H]
 rw [<- this]
 congr 1
 simp [Z45, toH, Z0F]
end
end Go.Proofs.YtefmbgacbhifdaaGreat.Le
namespace Go.Proofs.YtefmbgacbhifdaaGreat.Le
section
variable {U : Z9c}
mutual
def Z5b : SV U.Ty -> List Nat
 | .all id _ => [id]
 | .lsl id _ _ _ => [id]
 | .ptr id _ _ _ => [id]
 | .agg cs => Zdg cs
 | .tup cs => Zdg cs
 | .fn _ a b => Zdg a ++ Zdg b
 | .raw v => Z3x v
 | _ => []
def Zdg : List (SV U.Ty) -> List Nat
 | [] => []
 | x :: xs => Z5b x ++ Zdg xs
end
mutual
def Z7C (ρ : Nat -> Nat) : SV U.Ty -> SV U.Ty
 | .all id n => .all (ρ id) n
 | .lsl id off len tot => .lsl (ρ id) off len tot
 | .ptr id i off tot => .ptr (ρ id) i off tot
 | .agg cs => .agg (ZeK ρ cs)
 | .tup cs => .tup (ZeK ρ cs)
 | .fn f a b => .fn f (ZeK ρ a) (ZeK ρ b)
 | .raw v => .raw (Zia ρ v)
 | v => v
def ZeK (ρ : Nat -> Nat) : List (SV U.Ty) -> List (SV U.Ty)
 | [] => []
 | x :: xs => Z7C ρ x :: ZeK ρ xs
end
mutual
theorem ZqG : ∀ x : SV U.Ty, Z3x (toV U x) = Z5b x
 | .all _ _ => by simp only [toV, Z3x, Z5b]
 | .lsl _ _ _ _ => by simp only [toV, Z3x, Z5b]
 | .ptr _ _ _ _ => by simp only [toV, Z3x, Z5b]
 | .agg cs => by simp only [toV, Z3x, Z5b]; exact Z87 cs
 | .tup cs => by simp only [toV, Z3x, Z5b]; exact Z87 cs
 | .fn _ a b => by simp only [toV, Z3x, Z5b]; rw [Z87 a, Z87 b]
 | .raw v => by simp only [toV, Z5b]
 | .lit _ => by simp only [toV, Z3x, Z5b]
 | .si _ _ => by simp only [toV, Z3x, Z5b]
 | .sb _ => by simp only [toV, Z3x, Z5b]
 | .ss _ => by simp only [toV, Z3x, Z5b]
 | .nil _ => by simp only [toV, Z3x, Z5b]
 | .sl _ _ => by simp only [toV, Z3x, Z5b]
 | .slt _ _ => by simp only [toV, Z3x, Z5b]
 | .ept _ _ _ _ => by simp only [toV, Z3x, Z5b]
 | .no => by simp only [toV, Z3x, Z5b]
 | .und => by simp only [toV, Z3x, Z5b]
theorem Z87 : ∀ xs : List (SV U.Ty), Z0u (ZY U xs) = Zdg xs
 | [] => rfl
 | x :: xs => by simp only [ZY, Z0u, Zdg]; rw [ZqG x, Z87 xs]
end
mutual
theorem ZjX (ρ : Nat -> Nat) : ∀ x : SV U.Ty, toV U (Z7C ρ x) = Zia ρ (toV U x)
 | .all _ _ => by simp only [toV, Zia, Z7C]
 | .lsl _ _ _ _ => by simp only [toV, Zia, Z7C]
 | .ptr _ _ _ _ => by simp only [toV, Zia, Z7C]
 | .agg cs => by simp only [toV, Zia, Z7C]; rw [Z6U ρ cs]
 | .tup cs => by simp only [toV, Zia, Z7C]; rw [Z6U ρ cs]
 | .fn _ a b => by simp only [toV, Zia, Z7C]; rw [Z6U ρ a, Z6U ρ b]
 | .raw v => by simp only [toV, Z7C]
 | .lit _ => by simp only [toV, Zia, Z7C]
 | .si _ _ => by simp only [toV, Zia, Z7C]
 | .sb _ => by simp only [toV, Zia, Z7C]
 | .ss _ => by simp only [toV, Zia, Z7C]
 | .nil _ => by simp only [toV, Zia, Z7C]
 | .sl _ _ => by simp only [toV, Zia, Z7C]
 | .slt _ _ => by simp only [toV, Zia, Z7C]
 | .ept _ _ _ _ => by simp only [toV, Zia, Z7C]
 | .no => by simp only [toV, Zia, Z7C]
 | .und => by simp only [toV, Zia, Z7C]
theorem Z6U (ρ : Nat -> Nat) : ∀ xs : List (SV U.Ty), ZY U (ZeK ρ xs) = Z94 ρ (ZY U xs)
 | [] => rfl
 | x :: xs => by simp only [ZY, Z94, ZeK]; rw [ZjX ρ x, Z6U ρ xs]
end
def retS (e sz : Nat) (H : ZE U) : SV U.Ty -> Tr U (SV U.Ty × ZE U)
 | .nil _ => .when (U.esz e = sz) (.leaf (.sl e [], H))
 | y => .leaf (y, H)
def Zn5 : Fk -> ZE U -> SV U.Ty -> Tr U (SV U.Ty × ZE U)
 | .s e sz, H, x => (ZkT H x).andThen fun y => retS e sz (ZoG H (Zmq x)) y
 | .own e sz, H, x => (match x with
  | .nil _ => .when (U.esz e = sz) (.leaf (.all H.length 0, H ++ [.row e [] none]))
  | .all id n => .leaf (.all id n, H)
  | _ => .fail)
 | .keep, H, x => .leaf (x, H)
def ZlQ : List Fk -> ZE U -> List (SV U.Ty) -> Tr U (List (SV U.Ty) × ZE U)
 | [], H, [] => .leaf ([], H)
 | f :: fs, H, x :: xs => (Zn5 f H x).andThen fun r => (ZlQ fs r.2 xs).andThen fun q => .leaf (r.1 :: q.1, q.2)
 | _, _, _ => .fail
def Zt6 (fl : List Fk) (H : ZE U) (x : SV U.Ty) : Tr U (SV U.Ty × ZE U) :=
 match x with
 | .agg cs => (ZlQ fl H cs).andThen fun r => .leaf (.agg r.1, r.2)
 | .raw _ => .fail
 | x => match fl with
  | [f] => Zn5 f H x
  | _ => .fail
def ZlD : List (List Fk) -> ZE U -> List (SV U.Ty) -> Tr U (List (SV U.Ty) × ZE U)
 | [], H, [] => .leaf ([], H)
 | f :: fs, H, x :: xs => (Zt6 f H x).andThen fun r => (ZlD fs r.2 xs).andThen fun q => .leaf (r.1 :: q.1, q.2)
 | _, _, _ => .fail
def ZgV : Nat -> List Bf -> ZE U -> List Nat -> List Nat -> Tr U (ZE U × List Nat)
 | 0, _, _, _, _ => .fail
 | _ + 1, _, H, [], seen => .leaf (H, seen)
 | n + 1, fb, H, id :: todo, seen =>
  if seen.contains id then ZgV n fb H todo seen else
  match H[id]?, fb with
  | some (.row _ _ none), .row true :: fb' => ZgV n fb' H todo (seen ++ [id])
  | some (.row _ _ _), .row false :: fb' => ZgV n fb' (ZoG H [id]) todo (seen ++ [id])
  | some (.var _ _ x), .var fl :: fb' => (Zt6 fl H x).andThen fun r => (match r.2[id]? with
    | some (.var e m _) => .when (okS r.1 = true) (ZgV n fb' (r.2.set id (.var e m r.1)) (todo ++ Z5b r.1) (seen ++ [id]))
    | _ => .fail)
  | _, _ => .fail
def Zoe (ρ : Nat -> Nat) : Zvl U.Ty -> Zvl U.Ty
 | .var e n x => .var e n (Z7C ρ x)
 | .fvar e n x => .fvar e n (Z7C ρ x)
 | b => b
def ZtY (H : ZE U) (ids : List Nat) : ZE U := ids.map fun id => Zoe (ids.idxOf ·) ((H[id]?).getD .dead)
def ZtS (fa : List (List Fk)) (fb : List Bf) (k : Nat) (args : List (SV U.Ty)) (H : ZE U) : Tr U (List Nat × List (SV U.Ty) × ZE U) :=
 (ZlD fa H args).andThen fun r => (ZgV 1000 fb r.2 (List.range k ++ Zdg r.1) []).andThen fun q => .leaf (q.2, r.1, q.1)
def Zx5 : ZE U -> List Nat -> ZE U -> ZE U
 | H, [], bs => H ++ bs
 | H, id :: ids, b :: bs => Zx5 (H.set id b) ids bs
 | H, _ :: _, [] => H
def ZgJ (H : ZE U) (ids : List Nat) (H3 : ZE U) : ZE U := Zx5 H ids (H3.map (Zoe (Zf1 ids H.length)))
theorem ZAi {e sz : Nat} {H : ZE U} {y : SV U.Ty} {r : SV U.Ty × ZE U} (h : (retS e sz H y).Zz r) (hy : ∀ v, y ≠ .raw v) : toV U r.1 = Z2a sz (toV U y) /\ r.2 = H := by
 unfold retS at h
 split at h
 ·simp only [ZZ, Tr.Zz] at h
  obtain ⟨he, rfl⟩ := h
  simp [toV, Z2a, he]
 ·simp only [Tr.Zz] at h
  subst h
  refine ⟨?_, rfl⟩
  cases y with
  | nil e' => rename_i hne; exact absurd rfl (hne e')
  | raw v => exact absurd rfl (hy v)
  | _ => simp [toV, Z2a]
theorem Zw3 {H : ZE U} {x y : SV U.Ty} (h : (ZkT H x).Zz y) : ∀ v, y ≠ .raw v := by
 intro v hv
 subst hv
 unfold ZkT at h
 split at h <;> (try (simp [Tr.Zz] at h; done))
 ·obtain ⟨t, xs, fl, h1, h2, h3, h4⟩ := Z0s h; simp [Tr.Zz] at h3
 ·obtain ⟨t, xs, fl, h1, h2, h3, h4⟩ := Z0s h; simp [Tr.Zz] at h3
theorem ZpU {f : Fk} {H : ZE U} {x : SV U.Ty} {r : SV U.Ty × ZE U} (h : (Zn5 f H x).Zz r) : Zcj f (toH U H) (toV U x) = some (toV U r.1, toH U r.2) := by
 cases f with
 | s e sz =>
  simp only [Zn5, Zy] at h
  obtain ⟨y, h1, h2⟩ := h
  obtain ⟨e1, e2⟩ := ZAi h2 (Zw3 h1)
  simp only [Zcj, ZoH h1, Option.map_some, e1, e2]
  rw [Ztx, ZdT H _ (Zi1 h1)]
 | own e sz =>
  simp only [Zn5] at h
  split at h
  ·simp only [ZZ, Tr.Zz] at h
   obtain ⟨he, rfl⟩ := h
   simp [Zcj, Zwy, toV, toH, Z0F, ZK, he]
  ·simp only [Tr.Zz] at h
   subst h
   simp [Zcj, Zwy, toV]
  ·simp [Tr.Zz] at h
 | keep =>
  simp only [Zn5, Tr.Zz] at h
  subst h
  rfl
theorem Zvz : ∀ {fl : List Fk} {H : ZE U} {xs : List (SV U.Ty)} {r : List (SV U.Ty) × ZE U}, (ZlQ fl H xs).Zz r -> ZaI fl (toH U H) (ZY U xs) = some (ZY U r.1, toH U r.2) := by
 intro fl
 induction fl with
 | nil =>
  intro H xs r h
  cases xs with
  | nil => simp only [ZlQ, Tr.Zz] at h; subst h; rfl
  | cons => simp [ZlQ, Tr.Zz] at h
 | cons f fl ih =>
  intro H xs r h
  cases xs with
  | nil => simp [ZlQ, Tr.Zz] at h
  | cons x xs =>
   simp only [ZlQ, Zy, Tr.Zz] at h
   obtain ⟨p, h1, q, h2, rfl⟩ := h
   simp only [ZY, ZaI, ZpU h1, ih h2]
theorem Zrv {fl : List Fk} {H : ZE U} {x : SV U.Ty} {r : SV U.Ty × ZE U} (h : (Zt6 fl H x).Zz r) : Zh7 fl (toH U H) (toV U x) = some (toV U r.1, toH U r.2) := by
 unfold Zt6 at h
 split at h
 ·rename_i cs
  simp only [Zy, Tr.Zz] at h
  obtain ⟨p, h1, rfl⟩ := h
  simp only [toV, Zh7, Zvz h1, Option.map_some]
 ·simp [Tr.Zz] at h
 ·rename_i hn1 hn2
  split at h
  ·rename_i f
   have h1 := ZpU h
   unfold Zh7
   split
   ·rename_i cs hcs
    exfalso
    cases x <;> simp_all [toV]
   ·exact h1
  ·simp [Tr.Zz] at h
theorem Zw8 : ∀ {fl : List (List Fk)} {H : ZE U} {xs : List (SV U.Ty)} {r : List (SV U.Ty) × ZE U}, (ZlD fl H xs).Zz r -> Zbi fl (toH U H) (ZY U xs) = some (ZY U r.1, toH U r.2) := by
 intro fl
 induction fl with
 | nil =>
  intro H xs r h
  cases xs with
  | nil => simp only [ZlD, Tr.Zz] at h; subst h; rfl
  | cons => simp [ZlD, Tr.Zz] at h
 | cons f fl ih =>
  intro H xs r h
  cases xs with
  | nil => simp [ZlD, Tr.Zz] at h
  | cons x xs =>
   simp only [ZlD, Zy, Tr.Zz] at h
   obtain ⟨p, h1, q, h2, rfl⟩ := h
   simp only [ZY, Zbi, Zrv h1, ih h2]
theorem ZvH : ∀ {n : Nat} {fb : List Bf} {H : ZE U} {todo seen : List Nat} {r : ZE U × List Nat}, (ZgV n fb H todo seen).Zz r -> Zgh n fb (toH U H) todo seen = some (toH U r.1, r.2) := by
 intro n
 induction n with
 | zero => intro fb H todo seen r h; simp [ZgV, Tr.Zz] at h
 | succ n ih =>
  intro fb H todo seen r h
  cases todo with
  | nil => simp only [ZgV, Tr.Zz] at h; subst h; rfl
  | cons id todo =>
   unfold ZgV at h
   unfold Zgh
   by_cases hin : seen.contains id = true
   ·rw [if_pos hin] at h ⊢
    exact ih h
   ·rw [if_neg hin] at h ⊢
    rw [Z8f]
    split at h
    ·rename_i t xs fb' hb
     rw [hb]
     simp only [Option.map_some, Z0F, Bool.and_self, if_true]
     exact ih h
    ·rename_i t xs fl fb' hb
     rw [hb]
     simp only [Option.map_some, Z0F, Bool.and_self, if_true, Bool.false_eq_true, if_false]
     rw [<- ZdT H [id] (fun i hi => by simp at hi; subst hi; exact ⟨t, xs, fl, hb⟩)]
     exact ih h
    ·rename_i e m x fl fb' hb
     rw [hb]
     simp only [Zy] at h
     obtain ⟨p, h1, h2⟩ := h
     simp only [Option.map_some, Z0F, ZK, Bool.not_false, Bool.and_self, if_true, Zrv h1, Z8f]
     split at h2
     ·rename_i e' m' x' hb'
      simp only [ZZ] at h2
      obtain ⟨hok, h2⟩ := h2
      rw [hb']
      simp only [Option.map_some, Z0F, ZK, Zb4 hok, if_true]
      have := ih h2
      rw [Zdt] at this
      simp only [Z0F, ZK] at this
      rw [ZqG]
      exact this
     ·simp [Tr.Zz] at h2
    ·simp [Tr.Zz] at h
theorem ZjW {fa : List (List Fk)} {fb : List Bf} {k : Nat} {args : List (SV U.Ty)} {H : ZE U} {r : List Nat × List (SV U.Ty) × ZE U} (h : (ZtS fa fb k args H).Zz r) : pack fa fb k (ZY U args) (toH U H) = some (r.1, ZY U r.2.1, toH U r.2.2) := by
 simp only [ZtS, Zy, Tr.Zz] at h
 obtain ⟨p, h1, q, h2, rfl⟩ := h
 simp only [pack, Zw8 h1, Z87, ZvH h2]
theorem Zg5 (ρ : Nat -> Nat) (b : Zvl U.Ty) : Z0F U (Zoe ρ b) = Z3b ρ (Z0F U b) := by
 cases b <;> simp [Zoe, Z0F, Z3b, ZK, Zdq, Z94, ZjX]
theorem ZgE (H : ZE U) (ids : List Nat) : toH U (ZtY H ids) = Zrm (toH U H) ids := by
 simp only [toH, ZtY, Zrm, List.map_map]
 apply List.map_congr_left
 intro id _
 simp only [Function.comp, Zg5]
 congr 1
 rw [List.getElem?_map]
 cases H[id]? <;> rfl
theorem Zww : ∀ (H : ZE U) (ids : List Nat) (bs : ZE U), toH U (Zx5 H ids bs) = Zyc (toH U H) ids (toH U bs) := by
 intro H ids
 induction ids generalizing H with
 | nil => intro bs; simp [Zx5, Zyc, toH]
 | cons id ids ih =>
  intro bs
  cases bs with
  | nil => rfl
  | cons b bs =>
   simp only [Zx5, ih, Zdt]
   rfl
theorem ZpH (H : ZE U) (ids : List Nat) (H3 : ZE U) : toH U (ZgJ H ids H3) = Za3 (toH U H) ids (toH U H3) := by
 simp only [ZgJ, Za3, Zww]
 congr 1
 simp only [toH, List.map_map]
 apply List.map_congr_left
 intro b _
 simp [Function.comp, Zg5]
def ZnW : List (SV U.Ty) -> List FuncId
 | [] => []
 | .fn f _ _ :: vs => f :: ZnW vs
 | .raw v :: vs => Zjo [v] ++ ZnW vs
 | _ :: vs => ZnW vs
theorem Zud (v : V) (vs : List V) : Zjo (v :: vs) = Zjo [v] ++ Zjo vs := by
 cases v <;> simp [Zjo]
theorem ZtX : ∀ (vs : List (SV U.Ty)), Zjo (ZY U vs) = ZnW vs := by
 intro vs
 induction vs with
 | nil => rfl
 | cons v vs ih =>
  simp only [ZY]
  rw [Zud, ih]
  cases v <;> simp [toV, Zjo, ZnW]
end
end Go.Proofs.YtefmbgacbhifdaaGreat.Le
