/-
  A part of the proof.
-/
import Derived.Test.YtefmbgacbhifdaaGreatL5
namespace Go.Proofs.YtefmbgacbhifdaaGreat.Le
open Go.RowKit (Below)
def ZyP : Operand := .const (.slice none 0 0)
def ZvA (t : TypeId) : Code := .seq (.region 2 #[.mk (some 2) (.assign ZyP) t "slices.go:358" #[] none] false) .ret
def Zts (t : TypeId) : Code := .seq (.region 3 #[.mk (some 5) (.buildSlice t 0 #[]) t "slices.go:362" #[] none, .mk (some 6) (.move (.tmp 0)) t "slices.go:362" #[] none,
 .mk (some 7) (.call (.mk (.builtin .append) #[.tmp 5, .tmp 6] #[t, t])) t "slices.go:362" #[.mk 0 .data, .mk 1 .data] none,
 .mk (some 2) (.assign (.tmp 7)) t "slices.go:362" #[.mk 2 .data, .mk 2 .chain, .mk 0 .phase, .mk 1 .phase, .mk 2 .phase] none] false) .ret
def Zkr (t tb : TypeId) : Array Oper := #[.mk (some 3) (.move (.tmp 0)) t "slices.go:357" #[] none, .mk (some 4) (.binOp .eql t (.tmp 3) ZyP t) tb "slices.go:357" #[.mk 0 .data] none]
def Ztm (t tb : TypeId) : Code :=
 .seq (.region 0 #[.mk (some 2) (.assign ZyP) t "slices.go:355" #[] none] false) (.seq (.seq (.region 1 (Zkr t tb) false) (.cond (.tmp 4) (ZvA t) .skip)) (Zts t))
section
variable {P : Program} {E : Env} {B : Nat} {w0 : Start} {call : Z1Y}
theorem Zqi (w : World) (d : Nat) (t e : TypeId) (a : Option Addr) (l c : Nat) (h : P.underlying t = some (.slice e)) : (Op.equalIn (d + 1) t (.slice a l c) (.slice none 0 0)).run P w = .ok a.isNone w := by
 cases a <;> simp [Op.equalIn, run_underlying h]
theorem ZuL (w : World) (t e : TypeId) (a : Option Addr) (l c : Nat) (h : P.underlying t = some (.slice e)) : (Op.equal t (.slice a l c) (.slice none 0 0)).run P w = .ok a.isNone w := Zqi w 9999 t e a l c h
theorem Zvx {t e : TypeId} {y z : Operand} {v : Value} {w : World} (ht : P.underlying t = some (.slice e)) (hv : ∃ a n c, v = .slice a n c /\ (a = none -> n = 0)) :
  ∃ b, (do eqGuard .eql t y z v (.slice none 0 0); binOp .eql t v (.slice none 0 0)).run P w = .ok (.bool b) w /\ (b = true -> ∃ c, v = .slice none 0 c) := by
 obtain ⟨a, n, c, rfl, h0⟩ := hv
 refine ⟨a.isNone, ?_, fun h => ?_⟩
 ·simp only [Sem.run_bind]
  rw [Z34 _ _ _ _ _ _ (by simp) (by simp)]
  simp [binOp, ZuL w t e a n c ht]
 ·cases a with
  | none => exact ⟨c, by rw [h0 rfl]⟩
  | some a => cases h
theorem Zyx (hE : Z15 E) (hP : E.P = P) (hcall : Z8h P E B w0 call) {id : Nat} {t tb e n : TypeId} (ht : P.underlying t = some (.slice e)) {st : St} {σ : Sg} {a : Act} {w : World} (hr : Rel E B w0 σ st a w)
  {xs : List V} (hx : ev E st.s (.tmp 0) = .sl false n xs) (h3 : 3 < st.s.length) {Q : Exit -> Act -> World -> Prop}
  (hq : ∀ b a', Rel E B w0 σ ⟨setSlot (setSlot st.s (some 3) (.sl false n xs)) (some 4) (.lit (.bool b)), st.H⟩ a' w -> (b = true -> xs = []) -> Q .normal a' w) :
  (Code.region id (Zkr t tb) false).wp P Q a w := by
 refine wp_region ?_
 show wpOps P (Zkr t tb) Q [0, 1] a w
 have hv : ∃ v, a.eval (.tmp 0) = v /\ Zv σ w [.sl false n xs] [v] := by
  have := Z0E (a := a) hr.Zcy hr.slots (.tmp 0)
  rw [hx] at this
  exact ⟨_, rfl, this⟩
 obtain ⟨v, hv, hrv⟩ := hv
 rw [wpOps_cons]
 unfold wpOp
 have h0 : (Zkr t tb)[0]? = some (.mk (some 3) (.move (.tmp 0)) t "slices.go:357" #[] none) := rfl
 have h1 : (Zkr t tb)[1]? = some (.mk (some 4) (.binOp .eql t (.tmp 3) ZyP t) tb "slices.go:357" #[.mk 0 .data] none) := rfl
 simp only [h0]
 rw [if_pos (show Region.wanted _ _ = true from rfl)]
 refine .inl (Z2k (s := pure v) (u := v) (w' := w) (by unfold execOp; simp [hv]) (by simp [Sem.run_pure]) ?_)
 rw [wpOps_cons]
 unfold wpOp
 simp only [h1]
 rw [if_pos (show Region.wanted _ _ = true from rfl)]
 have hr1 : Rel E B w0 σ ⟨setSlot st.s (some 3) (.sl false n xs), st.H⟩ (a.put (some 3) v) w := ⟨hr.inv, hr.Zcy, ZgS hr.slots hrv (some 3), ZjV hr.calm _ _⟩
 have hev : (a.put (some 3) v).eval (.tmp 3) = v := by
  have : 3 < a.tmps.size := by
   have := hr.slots.length
   simp only [Array.length_toList] at this
   omega
  simp [Act.put, Act.eval, this]
 have hsh : ∃ a n c, v = .slice a n c /\ (a = none -> n = 0) /\ (a = none -> xs = []) := by
  cases hrv with
  | Z4u _ => exact ⟨none, 0, 0, rfl, fun _ => rfl, fun _ => rfl⟩
  | Z62 a _ => exact ⟨some a, 0, 0, rfl, fun h => (by cases h), fun h => (by cases h)⟩
  | sl b o c e' h1 h2 h3 h4 h5 h6 h7 _ => exact ⟨some _, _, _, rfl, fun h => (by cases h), fun h => (by cases h)⟩
 obtain ⟨va, vn, vc, hvs, hvn, hvx⟩ := hsh
 obtain ⟨b, hb1, hb2⟩ := Zvx (P := P) (t := t) (e := e) (y := .tmp 3) (z := ZyP) (w := w) ht ⟨va, vn, vc, hvs, hvn⟩
 refine .inl (Z2k (s := do eqGuard .eql t (.tmp 3) ZyP v (.slice none 0 0); binOp .eql t v (.slice none 0 0)) (u := .bool b) ?_ hb1 ?_)
 ·unfold execOp
  simp only [hev]
  rfl
 ·show Q .normal _ _
  refine hq b _ ⟨hr1.inv, hr1.Zcy, ZgS hr1.slots (.lit rfl .nil) (some 4), ZjV hr1.calm _ _⟩ (fun h => ?_)
  obtain ⟨c, hc⟩ := hb2 h
  rw [hvs] at hc
  cases hc
  exact hvx rfl
theorem Zrl (hmix : P.follows .mixedOrders = true) {f : FuncId} {fn : Func} {t tb e : TypeId} {i1 i2 : Nat} {iz : Option V} {ei : TI} {z : V} (hfn : P.funcs[f]? = some fn) (hbody : fn.body = some (Ztm t tb)) (hnt : fn.ntmps = 8) (hres : fn.results = #[.tmp 2])
  (hti : ZsP P t = some ⟨.slice e, i1, i2, iz⟩) (htu : P.underlying t = some (.slice e)) (hei : ZsP P e = some ei) (hez : ei.zero = some z) (hpos : 0 < ei.size) (hzl : z.cells.length = ei.size) (hzo : okV z = true)
  {xs : List V} (h1 : xs.length * ei.bytes <= lim) (h2 : xs.length <= maxLen) (fz : Nat -> Nat -> Prop) (w : World) (vs : List Value) (hcells : ∀ b c, fz b c -> ∃ u, w.cell? ⟨b, c, none⟩ = some u) (hr : Zv (bare fz) w [.sl false ei.size xs] vs) :
  Calls P f vs.toArray w fun e' w' => ∃ u σ', e' = .returned u /\ Inv w.heap.size (Start.of w fz) σ' [ZK true false e ei.size [], ZK true false e ei.size xs] w' /\ Ext (bare fz) w σ' w' /\ Zv σ' w' [.lsl 1 0 xs.length xs.length] [u] := by
 have hck : Zw4 P (fun _ => none) [] (fun _ => false) [] = true := rfl
 have hE := EC_ok (P := P) (gl := fun _ => none) (fs := []) (pu := fun _ => false) (bad := []) hmix hck
 generalize hE0 : EC P (fun _ => none) [] (fun _ => false) [] = E0 at hE
 have hP : E0.P = P := by rw [<- hE0]; rfl
 have t1 : E0.ti t = some ⟨.slice e, i1, i2, iz⟩ := by rw [<- hE0]; exact hti
 have t2 : E0.ti e = some ei := by rw [<- hE0]; exact hei
 have hcm : ∀ g id, E0.calm g id = true := fun g id => by rw [<- hE0]; rfl
 have hI : Inv w.heap.size (Start.of w fz) (bare fz) [] w := ⟨Below.refl _ w, Nat.le_refl _, fun id L hL => (by cases hL), fun id bx hb => by simp at hb, fun i j b1 b2 L1 L2 g h1 => by simp at h1, hcells,
  fun b c hc id bx L hb => by simp at hb, fun id bx hb => by simp at hb, fun b c hc _ => hc, fun b hb => hb.elim⟩
 have hg0 : Z0C E0 (bare fz) w := fun g r hh => by rw [<- hE0] at hh; cases hh
 have hcall : Z8h P E0 w.heap.size (Start.of w fz) (Z5D E0 0) := fun f args H x H' σ w vs h => by cases h
 have hpure : Z9V E0 (Z5D E0 0) := Z8W 0
 have hlp := ZrY (f := f) hE hP hcall hpure 0
 ·refine calls_of_wp hfn hbody ?_
  have hslots : Zv (bare fz) w ([.sl false ei.size xs] ++ List.replicate 7 Z0X) (vs.toArray ++ Array.replicate (fn.ntmps - vs.toArray.size) undef).toList := by
   simp only [Array.toList_append, Array.toList_replicate, List.size_toArray]
   rw [<- hr.length, hnt]
   exact hr.append (Zv.replicate _ (.no .nil))
  have hrel : Rel E0 w.heap.size (Start.of w fz) (bare fz) ⟨[.sl false ei.size xs] ++ List.replicate 7 Z0X, []⟩ { tmps := vs.toArray ++ Array.replicate (fn.ntmps - vs.toArray.size) undef, defers := [] } w := ⟨hI, hg0, hslots, rfl⟩
  have hfin : ∀ (s : List V), Z46 E0 [ZK true false e ei.size [], ZK true false e ei.size xs] s fn.results.toList = some (.lsl 1 0 xs.length xs.length) -> ∀ a' w' σ', Rel E0 w.heap.size (Start.of w fz) σ' ⟨s, [ZK true false e ei.size [], ZK true false e ei.size xs]⟩ a' w' -> Ext (bare fz) w σ' w' ->
    a'.defers = [] /\ ∃ v, (results fn a'.tmps).run P w' = .ok v w' /\ (fun e' w' => ∃ u σ', e' = Ending.returned u /\ Inv w.heap.size (Start.of w fz) σ' [ZK true false e ei.size [], ZK true false e ei.size xs] w' /\ Ext (bare fz) w σ' w' /\ Zv σ' w' [.lsl 1 0 xs.length xs.length] [u]) (.returned v) w' := by
   intro s hx a' w' σ' hr' he'
   obtain ⟨u, hu, hur⟩ := ZdH (P := P) hE hP hr'.inv hr'.slots hx
   exact ⟨hr'.calm, u, hu, u, σ', rfl, hr'.inv, he', hur⟩
  have c0 : ∀ lp, Z99 (Z5D E0 0) lp E0 f (.region 0 #[.mk (some 2) (.assign ZyP) t "slices.go:355" #[] none] false) ⟨[.sl false ei.size xs] ++ List.replicate 7 Z0X, []⟩ =
    some (.normal, ⟨[.sl false ei.size xs, Z0X, .lsl 0 0 0 0, Z0X, Z0X, Z0X, Z0X, Z0X], [ZK true false e ei.size []]⟩) := by
   intro lp
   simp [Z99, Zvk, stepD, Z9n, Zio, opD, ZyP, t1, Env.size, t2, place, setSlot, List.range, List.range.loop, List.replicate]
  refine wp_seq (Zf5 hE hP hcall hpure hlp _ _ .normal _ rfl (c0 _) _ _ _ _ hrel (fun a1 w1 σ1 hr1 he1 => ?_))
  show (Code.seq _ _).wp P _ a1 w1
  refine wp_seq (wp_seq (Zyx hE hP hcall htu hr1 (xs := xs) (n := ei.size) rfl (by simp) (fun b a2 hr2 hb => ?_)))
  show (Code.cond _ _ _).wp P _ a2 w1
  refine wp_cond (t := b) ?_ ?_
  ·have := Z0E (a := a2) hr2.Zcy hr2.slots (.tmp 4)
   generalize a2.eval (.tmp 4) = v4 at this ⊢
   simp only [ev, setSlot] at this
   cases this with
   | lit _ _ => rfl
  ·cases b with
   | true =>
    have hx := hb rfl
    subst hx
    have cA : ∀ lp, Z99 (Z5D E0 0) lp E0 f (ZvA t) ⟨setSlot (setSlot [.sl false ei.size [], Z0X, .lsl 0 0 0 0, Z0X, Z0X, Z0X, Z0X, Z0X] (some 3) (.sl false ei.size [])) (some 4) (.lit (.bool true)), [ZK true false e ei.size []]⟩ =
      some (.ret, ⟨[.sl false ei.size [], Z0X, .lsl 1 0 0 0, .sl false ei.size [], .lit (.bool true), Z0X, Z0X, Z0X], [ZK true false e ei.size [], ZK true false e ei.size []]⟩) := by
     intro lp
     simp [ZvA, Z99, Zvk, stepD, Z9n, Zio, opD, ZyP, t1, Env.size, t2, place, setSlot, List.range, List.range.loop]
    refine Zf5 hE hP hcall hpure hlp _ _ .ret _ rfl (cA _) _ _ _ _ hr2 (fun a3 w3 σ3 hr3 he3 => ?_)
    exact hfin _ (by rw [hres]; rfl) a3 w3 σ3 hr3 (he1.trans he3)
   | false =>
    refine wp_skip ?_
    show (Zts t).wp P _ a2 w1
    have cB : ∀ lp, Z99 (Z5D E0 0) lp E0 f (Zts t) ⟨setSlot (setSlot [.sl false ei.size xs, Z0X, .lsl 0 0 0 0, Z0X, Z0X, Z0X, Z0X, Z0X] (some 3) (.sl false ei.size xs)) (some 4) (.lit (.bool false)), [ZK true false e ei.size []]⟩ =
      some (.ret, ⟨[.sl false ei.size xs, Z0X, .lsl 1 0 xs.length xs.length, .sl false ei.size xs, .lit (.bool false), .lsl 1 0 0 0, .sl false ei.size xs, .lsl 1 0 xs.length xs.length], [ZK true false e ei.size [], ZK true false e ei.size xs]⟩) := by
     intro lp
     have hzk : ei.zok = true := by simp [TI.zok, hez, hzl, hzo]
     simp [Zts, Z99, Zvk, stepD, Z9n, Zio, opD, t1, t2, place, setSlot, List.range, List.range.loop, Z38, hez, Z2q, hpos, hzl, hzo, Zjs, bump, ev, evs, Z82, Z8i, elemsOf, Z3w, Z1L, ZK, h1, h2, hzk]
    refine Zf5 hE hP hcall hpure hlp _ _ .ret _ rfl (cB _) _ _ _ _ hr2 (fun a3 w3 σ3 hr3 he3 => ?_)
    exact hfin _ (by rw [hres]; rfl) a3 w3 σ3 hr3 (he1.trans he3)
theorem Zve (hmix : P.follows .mixedOrders = true) {f : FuncId} {fn : Func} {t tb e : TypeId} {i1 i2 : Nat} {iz : Option V} {ei : TI} {z : V} (hfn : P.funcs[f]? = some fn) (hbody : fn.body = some (Ztm t tb)) (hnt : fn.ntmps = 8) (hres : fn.results = #[.tmp 2])
  (hti : ZsP P t = some ⟨.slice e, i1, i2, iz⟩) (htu : P.underlying t = some (.slice e)) (hei : ZsP P e = some ei) (hez : ei.zero = some z) (hpos : 0 < ei.size) (hzl : z.cells.length = ei.size) (hzo : okV z = true)
  {xs : List V} (h1 : xs.length * ei.bytes <= lim) (h2 : xs.length <= maxLen) : Zhd P E f [.sl false ei.size xs] (.sl false ei.size xs) := by
 intro fz w vs hcells hg hr
 refine (Zrl hmix hfn hbody hnt hres hti htu hei hez hpos hzl hzo h1 h2 fz w vs hcells hr).mono ?_
 rintro e' w' ⟨u, σ', rfl, hI', hEx', hr'⟩
 have hfr : Zt2 [ZK true false e ei.size [], ZK true false e ei.size xs] (.lsl 1 0 xs.length xs.length) = some (.sl false ei.size xs) := by simp [Zt2, frz, Zn8, Z1L, ZK]
 obtain ⟨hI2, hEx2⟩ := hI'.freeze (ZxX (.lsl 1 0 xs.length xs.length))
 have hr2 := ZkI hI' hr' hfr (ZxX (.lsl 1 0 xs.length xs.length)) (fun i hi => hi)
 have hn := Ziq hI' hr' hfr
 refine ⟨u, _, rfl, hI2.below, fun b c h => (hEx2.fz b c (hEx'.fz b c h).1).1, fun b c h hlt => hI2.old b c h hlt, hI2.cells, ?_, hn⟩
 exact hr2.bare (fun b c h => ⟨h, rfl⟩) (by simp [ZH, hn])
theorem ZxO (hmix : P.follows .mixedOrders = true) {f : FuncId} {fn : Func} {t tb e : TypeId} {i1 i2 : Nat} {iz : Option V} {ei : TI} {z : V} (hfn : P.funcs[f]? = some fn) (hbody : fn.body = some (Ztm t tb)) (hnt : fn.ntmps = 8) (hres : fn.results = #[.tmp 2])
  (hti : ZsP P t = some ⟨.slice e, i1, i2, iz⟩) (htu : P.underlying t = some (.slice e)) (hei : ZsP P e = some ei) (hez : ei.zero = some z) (hpos : 0 < ei.size) (hzl : z.cells.length = ei.size) (hzo : okV z = true)
  {xs : List V} (h1 : xs.length * ei.bytes <= lim) (h2 : xs.length <= maxLen) : Zp1 P E f [.sl false ei.size xs] e ei.size xs := by
 intro fz w vs hcells hg hr
 have hfzv : ∀ x ∈ xs, fzV x = true := by
  cases hr with
  | Z4u _ => simp
  | Z62 a _ => simp
  | sl b o c e' k1 k2 k3 k4 k5 k6 k7 _ => exact k2
 refine (Zrl hmix hfn hbody hnt hres hti htu hei hez hpos hzl hzo h1 h2 fz w vs hcells hr).mono ?_
 rintro e' w' ⟨u, σ', rfl, hI', hEx', hr'⟩
 obtain ⟨L, hL, hok⟩ := hI'.boxes 1 _ rfl rfl
 obtain ⟨us, k1, k2, k3, k4⟩ := hok.Z93
 have htot : L.tot = xs.length := hok.tot
 have hesz : L.esz = ei.size := hok.esz.symm
 have hu : u = L.v := by
  cases hr' with
  | lsl q1 q2 q3 q4 _ =>
   rw [hL] at q1
   cases q1
   obtain ⟨_, a, n, c, k, r1, r2, r3, r4, _⟩ := q3 htot
   have hk0 : k = 0 := by omega
   subst hk0
   rw [r2, r1]
   rcases k4.2 with ⟨hv, hn⟩ | ⟨g, cap, cur, tg, hv, _⟩
   ·rw [r1] at hv
    cases hv
    have : xs.length = 0 := hn
    simp [this]
   ·rw [r1] at hv
    cases hv
    simp [Addr.add, ZK]
 subst hu
 refine ⟨L.v, us, σ'.fz, rfl, hI'.below, fun b c h => (hEx'.fz b c h).1, fun b c h hlt => hI'.old b c h hlt, hI'.cells, k1.bare (fun b c h => ⟨h, rfl⟩) (Z41 hfzv), hfzv, fun x hx => by rw [k2 x hx, hesz], k3, by rw [<- hesz]; exact k4, fun g c hg' hfz => ?_⟩
 have := hI'.floor g c hfz 1 _ L rfl rfl hL hg'
 simp [ZK] at this
theorem Z2n (hmix : P.follows .mixedOrders = true) {f : FuncId} {fn : Func} {t tb e : TypeId} (hfn : P.funcs[f]? = some fn) (hbody : fn.body = some (Ztm t tb)) (hnt : fn.ntmps = 8) (hres : fn.results = #[.tmp 2]) (hname : (fn.name == "runtime.NumGoroutine") = false)
  (hti : (ZsP P t).map TI.ty = some (.slice e)) (htu : P.underlying t = some (.slice e)) {n by' : Nat} (hei : (ZsP P e).map (fun i => (i.size, i.bytes, i.zok)) = some (n, by', true)) (hpos : 0 < n) : Z9S P f n by' e := by
 cases h1 : ZsP P t with
 | none => rw [h1] at hti; cases hti
 | some ti =>
  cases h2 : ZsP P e with
  | none => rw [h2] at hei; cases hei
  | some ei =>
   rw [h1] at hti
   rw [h2] at hei
   simp only [Option.map_some, Option.some.injEq, Prod.mk.injEq] at hti hei
   obtain ⟨ty, i1, i2, iz⟩ := ti
   simp only at hti
   subst hti
   obtain ⟨rfl, rfl, hz⟩ := hei
   unfold TI.zok at hz
   split at hz
   ·rename_i z hz0
    simp only [Bool.and_eq_true, beq_iff_eq] at hz
    exact ⟨⟨fn, hfn, by rw [hbody]; rfl, hname⟩, fun E xs h3 h4 => Zve hmix hfn hbody hnt hres h1 htu h2 hz0 hpos hz.2 hz.1 h3 h4, fun E xs h3 h4 => ZxO hmix hfn hbody hnt hres h1 htu h2 hz0 hpos hz.2 hz.1 h3 h4⟩
   ·cases hz
theorem Z7f {U : Z9c} {E0 : Env} {f n by' e : Nat} (h : Z9S P f n by' e) {m : HMod U}
  (hm : ∀ (x : m.sin.X U) (y : U.Ty m.ky), m.fn x = some y -> ∃ xs, ZY U (m.sin.enc x).1 = [.sl false n xs] /\ toH U (m.sin.enc x).2 = [] /\ toV U (m.out y).1 = .lsl 0 0 xs.length xs.length /\ toH U (m.out y).2 = [ZK true false e n xs] /\ xs.length * by' <= lim /\ xs.length <= maxLen) : Z29 P E0 f m := by
 refine ⟨h.entered, fun x y hx => ?_⟩
 obtain ⟨xs, h1, h2, h3, h4, h5, h6⟩ := hm x y hx
 rw [h1, h2, h3, h4]
 intro B w0 σ w vs hI hg hr
 have := Zrz (P := P) (E := E0) (f := f) (e := e) (sz := n) (xs := xs) (as := [.sl false n xs]) [] (by simpa [Z0r] using h.own E0 xs h5 h6) rfl hI hg hr
 exact this
end
end Go.Proofs.YtefmbgacbhifdaaGreat.Le
namespace Go.Proofs.YtefmbgacbhifdaaGreat.Le
end Go.Proofs.YtefmbgacbhifdaaGreat.Le
