/-
  slices.Clone: the one function that asks whether a slice is nil.
-/
import Derived.Test.YtkepnndakhpgoaaGreatDoorL5
import Derived.LaidMore
import Derived.MakeChecks
import Derived.FnData
import Derived.OpenShut
namespace Go.Proofs.YtkepnndakhpgoaaGreatDoor.Le
set_option linter.unusedVariables false
open Go.RowKit (Below)

def nilC : Operand := .const (.slice none 0 0)

def cloneA (t : TypeId) : Code := .seq (.region 2 #[.mk (some 2) (.assign nilC) t "slices.go:358" #[] none] false) .ret
def cloneB (t : TypeId) : Code := .seq (.region 3 #[.mk (some 5) (.buildSlice t 0 #[]) t "slices.go:362" #[] none, .mk (some 6) (.move (.tmp 0)) t "slices.go:362" #[] none,
  .mk (some 7) (.call (.mk (.builtin .append) #[.tmp 5, .tmp 6] #[t, t])) t "slices.go:362" #[.mk 0 .data, .mk 1 .data] none,
  .mk (some 2) (.assign (.tmp 7)) t "slices.go:362" #[.mk 2 .data, .mk 2 .chain, .mk 0 .phase, .mk 1 .phase, .mk 2 .phase] none] false) .ret
def cloneR1 (t tb : TypeId) : Array Oper := #[.mk (some 3) (.move (.tmp 0)) t "slices.go:357" #[] none, .mk (some 4) (.binOp .eql t (.tmp 3) nilC t) tb "slices.go:357" #[.mk 0 .data] none]
def cloneC (t tb : TypeId) : Code :=
  .seq (.region 0 #[.mk (some 2) (.assign nilC) t "slices.go:355" #[] none] false) (.seq (.seq (.region 1 (cloneR1 t tb) false) (.cond (.tmp 4) (cloneA t) .skip)) (cloneB t))

section
variable {P : Program} {E : Env} {B : Nat} {w0 : Start} {call : CallF}

theorem run_eqIn_nil (w : World) (d : Nat) (t e : TypeId) (a : Option Addr) (l c : Nat) (h : P.underlying t = some (.slice e)) : (Op.equalIn (d + 1) t (.slice a l c) (.slice none 0 0)).run P w = .ok a.isNone w := by
  cases a <;> simp [Op.equalIn, run_underlying h]
theorem run_eq_nil (w : World) (t e : TypeId) (a : Option Addr) (l c : Nat) (h : P.underlying t = some (.slice e)) : (Op.equal t (.slice a l c) (.slice none 0 0)).run P w = .ok a.isNone w := run_eqIn_nil w 9999 t e a l c h

/-- The question whether a slice is nil: it is answered, one way or the other. -/
theorem nil_asked {t e : TypeId} {y z : Operand} {v : Value} {w : World} (ht : P.underlying t = some (.slice e)) (hv : ∃ a n c, v = .slice a n c ∧ (a = none → n = 0)) :
    ∃ b, (do eqGuard .eql t y z v (.slice none 0 0); binOp .eql t v (.slice none 0 0)).run P w = .ok (.bool b) w ∧ (b = true → ∃ c, v = .slice none 0 c) := by
  obtain ⟨a, n, c, rfl, h0⟩ := hv
  refine ⟨a.isNone, ?_, fun h => ?_⟩
  · simp only [Sem.run_bind]
    rw [eqGuard_plain _ _ _ _ _ _ (by simp) (by simp)]
    simp [binOp, run_eq_nil w t e a n c ht]
  · cases a with
    | none => exact ⟨c, by rw [h0 rfl]⟩
    | some a => cases h

/-- A region that moves a slice and asks whether it is nil. -/
theorem asked_ok (hE : EnvOK E) (hP : E.P = P) (hcall : CallOK P E B w0 call) {id : Nat} {t tb e n : TypeId} (ht : P.underlying t = some (.slice e)) {st : St} {σ : Sg} {a : Act} {w : World} (hr : Rel E B w0 σ st a w)
    {xs : List V} (hx : ev E st.s (.tmp 0) = .sl false n xs) (h3 : 3 < st.s.length) {Q : Exit → Act → World → Prop}
    (hq : ∀ b a', Rel E B w0 σ ⟨setSlot (setSlot st.s (some 3) (.sl false n xs)) (some 4) (.lit (.bool b)), st.H⟩ a' w → (b = true → xs = []) → Q .normal a' w) :
    (Code.region id (cloneR1 t tb) false).wp P Q a w := by
  refine wp_region ?_
  show wpOps P (cloneR1 t tb) Q [0, 1] a w
  have hv : ∃ v, a.eval (.tmp 0) = v ∧ Reps σ w [.sl false n xs] [v] := by
    have := ev_reps (a := a) hr.glob hr.slots (.tmp 0)
    rw [hx] at this
    exact ⟨_, rfl, this⟩
  obtain ⟨v, hv, hrv⟩ := hv
  rw [wpOps_cons]
  unfold wpOp
  have h0 : (cloneR1 t tb)[0]? = some (.mk (some 3) (.move (.tmp 0)) t "slices.go:357" #[] none) := rfl
  have h1 : (cloneR1 t tb)[1]? = some (.mk (some 4) (.binOp .eql t (.tmp 3) nilC t) tb "slices.go:357" #[.mk 0 .data] none) := rfl
  simp only [h0]
  rw [if_pos (show Region.wanted _ _ = true from rfl)]
  refine .inl (wp_value (s := pure v) (u := v) (w' := w) (by unfold execOp; simp [hv]) (by simp [Sem.run_pure]) ?_)
  rw [wpOps_cons]
  unfold wpOp
  simp only [h1]
  rw [if_pos (show Region.wanted _ _ = true from rfl)]
  have hr1 : Rel E B w0 σ ⟨setSlot st.s (some 3) (.sl false n xs), st.H⟩ (a.put (some 3) v) w := ⟨hr.inv, hr.glob, put_slots hr.slots hrv (some 3), put_calm hr.calm _ _⟩
  have hev : (a.put (some 3) v).eval (.tmp 3) = v := by
    have : 3 < a.tmps.size := by
      have := hr.slots.length
      simp only [Array.length_toList] at this
      omega
    simp [Act.put, Act.eval, this]
  have hsh : ∃ a n c, v = .slice a n c ∧ (a = none → n = 0) ∧ (a = none → xs = []) := by
    cases hrv with
    | slnil _ => exact ⟨none, 0, 0, rfl, fun _ => rfl, fun _ => rfl⟩
    | slemp a _ => exact ⟨some a, 0, 0, rfl, fun h => (by cases h), fun h => (by cases h)⟩
    | sl b o c e' h1 h2 h3 h4 h5 h6 h7 _ => exact ⟨some _, _, _, rfl, fun h => (by cases h), fun h => (by cases h)⟩
  obtain ⟨va, vn, vc, hvs, hvn, hvx⟩ := hsh
  obtain ⟨b, hb1, hb2⟩ := nil_asked (P := P) (t := t) (e := e) (y := .tmp 3) (z := nilC) (w := w) ht ⟨va, vn, vc, hvs, hvn⟩
  refine .inl (wp_value (s := do eqGuard .eql t (.tmp 3) nilC v (.slice none 0 0); binOp .eql t v (.slice none 0 0)) (u := .bool b) ?_ hb1 ?_)
  · unfold execOp
    simp only [hev]
    rfl
  · show Q .normal _ _
    refine hq b _ ⟨hr1.inv, hr1.glob, put_slots hr1.slots (.lit rfl .nil) (some 4), put_calm hr1.calm _ _⟩ (fun h => ?_)
    obtain ⟨c, hc⟩ := hb2 h
    rw [hvs] at hc
    cases hc
    exact hvx rfl

/-- **slices.Clone.** -/
theorem clone_key (hmix : P.follows .mixedOrders = true) {f : FuncId} {fn : Func} {t tb e : TypeId} {i1 i2 : Nat} {iz : Option V} {ei : TI} {z : V} (hfn : P.funcs[f]? = some fn) (hbody : fn.body = some (cloneC t tb)) (hnt : fn.ntmps = 8) (hres : fn.results = #[.tmp 2])
    (hti : tiOf P t = some ⟨.slice e, i1, i2, iz⟩) (htu : P.underlying t = some (.slice e)) (hei : tiOf P e = some ei) (hez : ei.zero = some z) (hpos : 0 < ei.size) (hzl : z.cells.length = ei.size) (hzo : okV z = true)
    {xs : List V} (h1 : xs.length * ei.bytes ≤ lim) (h2 : xs.length ≤ maxLen) (fz : Nat → Nat → Prop) (w : World) (vs : List Value) (hcells : ∀ b c, fz b c → ∃ u, w.cell? ⟨b, c, none⟩ = some u) (hr : Reps (bare fz) w [.sl false ei.size xs] vs) :
    Calls P f vs.toArray w fun e' w' => ∃ u σ', e' = .returned u ∧ Inv w.heap.size (Start.of w fz) σ' [newBox true false e ei.size [], newBox true false e ei.size xs] w' ∧ Ext (bare fz) w σ' w' ∧ Reps σ' w' [.lsl 1 0 xs.length xs.length] [u] := by
  have hck : ecCheck P (fun _ => none) [] (fun _ => false) [] = true := rfl
  have hE := EC_ok (P := P) (gl := fun _ => none) (fs := []) (pu := fun _ => false) (bad := []) hmix hck
  generalize hE0 : EC P (fun _ => none) [] (fun _ => false) [] = E0 at hE
  have hP : E0.P = P := by rw [← hE0]; rfl
  have t1 : E0.ti t = some ⟨.slice e, i1, i2, iz⟩ := by rw [← hE0]; exact hti
  have t2 : E0.ti e = some ei := by rw [← hE0]; exact hei
  have hcm : ∀ g id, E0.calm g id = true := fun g id => by rw [← hE0]; rfl
  have hI : Inv w.heap.size (Start.of w fz) (bare fz) [] w := ⟨Below.refl _ w, Nat.le_refl _, fun id L hL => (by cases hL), fun id bx hb => by simp at hb, fun i j b1 b2 L1 L2 g h1 => by simp at h1, hcells,
    fun b c hc id bx L hb => by simp at hb, fun id bx hb => by simp at hb, fun b c hc _ => hc, fun b hb => hb.elim⟩
  have hg0 : GlobOK E0 (bare fz) w := fun g r hh => by rw [← hE0] at hh; cases hh
  have hcall : CallOK P E0 w.heap.size (Start.of w fz) (callD E0 0) := fun f args H x H' σ w vs h => by cases h
  have hpure : CallsOK E0 (callD E0 0) := callD_calls 0
  have hlp := loop_ok (f := f) hE hP hcall hpure 0
  · refine calls_of_wp hfn hbody ?_
    have hslots : Reps (bare fz) w ([.sl false ei.size xs] ++ List.replicate 7 vundef) (vs.toArray ++ Array.replicate (fn.ntmps - vs.toArray.size) undef).toList := by
      simp only [Array.toList_append, Array.toList_replicate, List.size_toArray]
      rw [← hr.length, hnt]
      exact hr.append (Reps.replicate _ (.no .nil))
    have hrel : Rel E0 w.heap.size (Start.of w fz) (bare fz) ⟨[.sl false ei.size xs] ++ List.replicate 7 vundef, []⟩ { tmps := vs.toArray ++ Array.replicate (fn.ntmps - vs.toArray.size) undef, defers := [] } w := ⟨hI, hg0, hslots, rfl⟩
    have hfin : ∀ (s : List V), resultsD E0 [newBox true false e ei.size [], newBox true false e ei.size xs] s fn.results.toList = some (.lsl 1 0 xs.length xs.length) → ∀ a' w' σ', Rel E0 w.heap.size (Start.of w fz) σ' ⟨s, [newBox true false e ei.size [], newBox true false e ei.size xs]⟩ a' w' → Ext (bare fz) w σ' w' →
        a'.defers = [] ∧ ∃ v, (results fn a'.tmps).run P w' = .ok v w' ∧ (fun e' w' => ∃ u σ', e' = Ending.returned u ∧ Inv w.heap.size (Start.of w fz) σ' [newBox true false e ei.size [], newBox true false e ei.size xs] w' ∧ Ext (bare fz) w σ' w' ∧ Reps σ' w' [.lsl 1 0 xs.length xs.length] [u]) (.returned v) w' := by
      intro s hx a' w' σ' hr' he'
      obtain ⟨u, hu, hur⟩ := results_ok (P := P) hE hP hr'.inv hr'.slots hx
      exact ⟨hr'.calm, u, hu, u, σ', rfl, hr'.inv, he', hur⟩
    have c0 : ∀ lp, codeD (callD E0 0) lp E0 f (.region 0 #[.mk (some 2) (.assign nilC) t "slices.go:355" #[] none] false) ⟨[.sl false ei.size xs] ++ List.replicate 7 vundef, []⟩ =
        some (.normal, ⟨[.sl false ei.size xs, vundef, .lsl 0 0 0 0, vundef, vundef, vundef, vundef, vundef], [newBox true false e ei.size []]⟩) := by
      intro lp
      simp [codeD, opsD, stepD, stepAt, actD, opD, nilC, t1, Env.size, t2, place, setSlot, List.range, List.range.loop, List.replicate]
    refine wp_seq (code_ok hE hP hcall hpure hlp _ _ .normal _ rfl (c0 _) _ _ _ _ hrel (fun a1 w1 σ1 hr1 he1 => ?_))
    show (Code.seq _ _).wp P _ a1 w1
    refine wp_seq (wp_seq (asked_ok hE hP hcall htu hr1 (xs := xs) (n := ei.size) rfl (by simp) (fun b a2 hr2 hb => ?_)))
    show (Code.cond _ _ _).wp P _ a2 w1
    refine wp_cond (t := b) ?_ ?_
    · have := ev_reps (a := a2) hr2.glob hr2.slots (.tmp 4)
      generalize a2.eval (.tmp 4) = v4 at this ⊢
      simp only [ev, setSlot] at this
      cases this with
      | lit _ _ => rfl
    · cases b with
      | true =>
        have hx := hb rfl
        subst hx
        have cA : ∀ lp, codeD (callD E0 0) lp E0 f (cloneA t) ⟨setSlot (setSlot [.sl false ei.size [], vundef, .lsl 0 0 0 0, vundef, vundef, vundef, vundef, vundef] (some 3) (.sl false ei.size [])) (some 4) (.lit (.bool true)), [newBox true false e ei.size []]⟩ =
            some (.ret, ⟨[.sl false ei.size [], vundef, .lsl 1 0 0 0, .sl false ei.size [], .lit (.bool true), vundef, vundef, vundef], [newBox true false e ei.size [], newBox true false e ei.size []]⟩) := by
          intro lp
          simp [cloneA, codeD, opsD, stepD, stepAt, actD, opD, nilC, t1, Env.size, t2, place, setSlot, List.range, List.range.loop]
        refine code_ok hE hP hcall hpure hlp _ _ .ret _ rfl (cA _) _ _ _ _ hr2 (fun a3 w3 σ3 hr3 he3 => ?_)
        exact hfin _ (by rw [hres]; rfl) a3 w3 σ3 hr3 (he1.trans he3)
      | false =>
        refine wp_skip ?_
        show (cloneB t).wp P _ a2 w1
        have cB : ∀ lp, codeD (callD E0 0) lp E0 f (cloneB t) ⟨setSlot (setSlot [.sl false ei.size xs, vundef, .lsl 0 0 0 0, vundef, vundef, vundef, vundef, vundef] (some 3) (.sl false ei.size xs)) (some 4) (.lit (.bool false)), [newBox true false e ei.size []]⟩ =
            some (.ret, ⟨[.sl false ei.size xs, vundef, .lsl 1 0 xs.length xs.length, .sl false ei.size xs, .lit (.bool false), .lsl 1 0 0 0, .sl false ei.size xs, .lsl 1 0 xs.length xs.length], [newBox true false e ei.size [], newBox true false e ei.size xs]⟩) := by
          intro lp
          have hzk : ei.zok = true := by simp [TI.zok, hez, hzl, hzo]
          simp [cloneB, codeD, opsD, stepD, stepAt, actD, opD, t1, t2, place, setSlot, List.range, List.range.loop, buildSliceD, hez, frzAll, hpos, hzl, hzo, fillE, bump, ev, evs, builtinD, appendD, elemsOf, eszIs, boxAt, newBox, h1, h2, hzk]
        refine code_ok hE hP hcall hpure hlp _ _ .ret _ rfl (cB _) _ _ _ _ hr2 (fun a3 w3 σ3 hr3 he3 => ?_)
        exact hfin _ (by rw [hres]; rfl) a3 w3 σ3 hr3 (he1.trans he3)

theorem clone_pure (hmix : P.follows .mixedOrders = true) {f : FuncId} {fn : Func} {t tb e : TypeId} {i1 i2 : Nat} {iz : Option V} {ei : TI} {z : V} (hfn : P.funcs[f]? = some fn) (hbody : fn.body = some (cloneC t tb)) (hnt : fn.ntmps = 8) (hres : fn.results = #[.tmp 2])
    (hti : tiOf P t = some ⟨.slice e, i1, i2, iz⟩) (htu : P.underlying t = some (.slice e)) (hei : tiOf P e = some ei) (hez : ei.zero = some z) (hpos : 0 < ei.size) (hzl : z.cells.length = ei.size) (hzo : okV z = true)
    {xs : List V} (h1 : xs.length * ei.bytes ≤ lim) (h2 : xs.length ≤ maxLen) : PureFn P E f [.sl false ei.size xs] (.sl false ei.size xs) := by
  intro fz w vs hcells hg hr
  refine (clone_key hmix hfn hbody hnt hres hti htu hei hez hpos hzl hzo h1 h2 fz w vs hcells hr).mono ?_
  rintro e' w' ⟨u, σ', rfl, hI', hEx', hr'⟩
  have hfr : frzT [newBox true false e ei.size [], newBox true false e ei.size xs] (.lsl 1 0 xs.length xs.length) = some (.sl false ei.size xs) := by simp [frzT, frz, frz0, boxAt, newBox]
  obtain ⟨hI2, hEx2⟩ := hI'.freeze (idsT (.lsl 1 0 xs.length xs.length))
  have hr2 := frzT_reps hI' hr' hfr (idsT (.lsl 1 0 xs.length xs.length)) (fun i hi => hi)
  have hn := frzT_noRef hI' hr' hfr
  refine ⟨u, _, rfl, hI2.below, fun b c h => (hEx2.fz b c (hEx'.fz b c h).1).1, fun b c h hlt => hI2.old b c h hlt, hI2.cells, ?_, hn⟩
  exact hr2.bare (fun b c h => ⟨h, rfl⟩) (by simp [noRefs, hn])

theorem clone_own (hmix : P.follows .mixedOrders = true) {f : FuncId} {fn : Func} {t tb e : TypeId} {i1 i2 : Nat} {iz : Option V} {ei : TI} {z : V} (hfn : P.funcs[f]? = some fn) (hbody : fn.body = some (cloneC t tb)) (hnt : fn.ntmps = 8) (hres : fn.results = #[.tmp 2])
    (hti : tiOf P t = some ⟨.slice e, i1, i2, iz⟩) (htu : P.underlying t = some (.slice e)) (hei : tiOf P e = some ei) (hez : ei.zero = some z) (hpos : 0 < ei.size) (hzl : z.cells.length = ei.size) (hzo : okV z = true)
    {xs : List V} (h1 : xs.length * ei.bytes ≤ lim) (h2 : xs.length ≤ maxLen) : PureOwn P E f [.sl false ei.size xs] e ei.size xs := by
  intro fz w vs hcells hg hr
  have hfzv : ∀ x ∈ xs, fzV x = true := by
    cases hr with
    | slnil _ => simp
    | slemp a _ => simp
    | sl b o c e' k1 k2 k3 k4 k5 k6 k7 _ => exact k2
  refine (clone_key hmix hfn hbody hnt hres hti htu hei hez hpos hzl hzo h1 h2 fz w vs hcells hr).mono ?_
  rintro e' w' ⟨u, σ', rfl, hI', hEx', hr'⟩
  obtain ⟨L, hL, hok⟩ := hI'.boxes 1 _ rfl rfl
  obtain ⟨us, k1, k2, k3, k4⟩ := hok.reps
  have htot : L.tot = xs.length := hok.tot
  have hesz : L.esz = ei.size := hok.esz.symm
  have hu : u = L.v := by
    cases hr' with
    | lsl q1 q2 q3 q4 _ =>
      rw [hL] at q1
      cases q1
      obtain ⟨_, a, n, c, k, r1, r2, r3, r4, _⟩ := q3 htot
      have hk0 : k = 0 := by omega
      subst hk0
      rw [r2, r1]
      rcases k4.2 with ⟨hv, hn⟩ | ⟨g, cap, cur, tg, hv, _⟩
      · rw [r1] at hv
        cases hv
        have : xs.length = 0 := hn
        simp [this]
      · rw [r1] at hv
        cases hv
        simp [Addr.add, newBox]
  subst hu
  refine ⟨L.v, us, σ'.fz, rfl, hI'.below, fun b c h => (hEx'.fz b c h).1, fun b c h hlt => hI'.old b c h hlt, hI'.cells, k1.bare (fun b c h => ⟨h, rfl⟩) (fzV_noRefs hfzv), hfzv, fun x hx => by rw [k2 x hx, hesz], k3, by rw [← hesz]; exact k4, fun g c hg' hfz => ?_⟩
  have := hI'.floor g c hfz 1 _ L rfl rfl hL hg'
  simp [newBox] at this

theorem clone_ok (hmix : P.follows .mixedOrders = true) {f : FuncId} {fn : Func} {t tb e : TypeId} (hfn : P.funcs[f]? = some fn) (hbody : fn.body = some (cloneC t tb)) (hnt : fn.ntmps = 8) (hres : fn.results = #[.tmp 2]) (hname : (fn.name == "runtime.NumGoroutine") = false)
    (hti : (tiOf P t).map TI.ty = some (.slice e)) (htu : P.underlying t = some (.slice e)) {n by' : Nat} (hei : (tiOf P e).map (fun i => (i.size, i.bytes, i.zok)) = some (n, by', true)) (hpos : 0 < n) : CloneOK P f n by' e := by
  cases h1 : tiOf P t with
  | none => rw [h1] at hti; cases hti
  | some ti =>
    cases h2 : tiOf P e with
    | none => rw [h2] at hei; cases hei
    | some ei =>
      rw [h1] at hti
      rw [h2] at hei
      simp only [Option.map_some, Option.some.injEq, Prod.mk.injEq] at hti hei
      obtain ⟨ty, i1, i2, iz⟩ := ti
      simp only at hti
      subst hti
      obtain ⟨rfl, rfl, hz⟩ := hei
      unfold TI.zok at hz
      split at hz
      · rename_i z hz0
        simp only [Bool.and_eq_true, beq_iff_eq] at hz
        exact ⟨⟨fn, hfn, by rw [hbody]; rfl, hname⟩, fun E xs h3 h4 => clone_pure hmix hfn hbody hnt hres h1 htu h2 hz0 hpos hz.2 hz.1 h3 h4, fun E xs h3 h4 => clone_own hmix hfn hbody hnt hres h1 htu h2 hz0 hpos hz.2 hz.1 h3 h4⟩
      · cases hz

/-- slices.Clone as a function that leaves a box. -/
theorem clone_hfn {U : Univ} {E0 : Env} {f n by' e : Nat} (h : CloneOK P f n by' e) {m : HMod U}
    (hm : ∀ (x : m.sin.X U) (y : U.Ty m.ky), m.fn x = some y → ∃ xs, toVs U (m.sin.enc x).1 = [.sl false n xs] ∧ toH U (m.sin.enc x).2 = [] ∧ toV U (m.out y).1 = .lsl 0 0 xs.length xs.length ∧ toH U (m.out y).2 = [newBox true false e n xs] ∧ xs.length * by' ≤ lim ∧ xs.length ≤ maxLen) : HFnOK P E0 f m := by
  refine ⟨h.entered, fun x y hx => ?_⟩
  obtain ⟨xs, h1, h2, h3, h4, h5, h6⟩ := hm x y hx
  rw [h1, h2, h3, h4]
  intro B w0 σ w vs hI hg hr
  have := own_calls (P := P) (E := E0) (f := f) (e := e) (sz := n) (xs := xs) (as := [.sl false n xs]) [] (by simpa [retypeAll] using h.own E0 xs h5 h6) rfl hI hg hr
  exact this

end

end Go.Proofs.YtkepnndakhpgoaaGreatDoor.Le

/-
  Functions without arguments, run by the kernel, with contracts of some functions given.
-/
namespace Go.Proofs.YtkepnndakhpgoaaGreatDoor.Le
set_option linter.unusedVariables false

/-- Functions whose answers are given. -/
def envX (ex : FuncId → Option (List V → Option V)) (cl : List (Nat × Nat × Nat × Nat)) : FuncId → Option (List V → Option V) := fun g => match ex g with | some F => some F | none => envCl cl g
def ownX (ex : FuncId → Option (List V → Option V)) (cl : List (Nat × Nat × Nat × Nat)) : FuncId → Option TypeId := fun g => match ex g with | some _ => none | none => ownCl cl g
structure GivenOK (P : Program) (gl : Nat → Option (List V)) (f : FuncId) (F : List V → Option V) : Prop where
  entered : Entered P f
  pure : ∀ (E : Env) (as : List V) (r : V), E.glob = gl → F as = some r → PureFn P E f as r

theorem envX_fns {P : Program} {gl : Nat → Option (List V)} {E : Env} {ex : FuncId → Option (List V → Option V)} {cl : List (Nat × Nat × Nat × Nat)} (hg : E.glob = gl) (hE : E.env = envX ex cl) (ho : E.own = ownX ex cl) (hhm : ∀ f k, E.hm f k = none) (h : ∀ p ∈ cl, CloneOK P p.1 p.2.1 p.2.2.1 p.2.2.2) (hx : ∀ g F, ex g = some F → GivenOK P gl g F) : EnvFns P E := by
  refine ⟨?_, fun f key hs h => by rw [hhm] at h; cases h⟩
  intro f F hF
  rw [hE] at hF
  cases he : ex f with
  | some F' =>
    simp only [envX, he, Option.some.injEq] at hF
    subst hF
    refine ⟨(hx f _ he).entered, fun as r _ hr => ?_⟩
    rw [show E.own f = none by rw [ho]; simp only [ownX, he]]
    exact (hx f _ he).pure E as r hg hr
  | none =>
  simp only [envX, he] at hF
  unfold envCl at hF
  cases hp : cl.find? (fun p => p.1 == f) with
  | none => simp [hp] at hF
  | some p =>
    simp only [hp, Option.map_some, Option.some.injEq] at hF
    subst hF
    have hm := h p (List.mem_of_find?_eq_some hp)
    have hf : p.1 = f := by simpa using List.find?_some hp
    rw [hf] at hm
    have hown : E.own f = some p.2.2.2 := by rw [ho]; simp only [ownX, he]; unfold ownCl; rw [hp]; rfl
    refine ⟨hm.entered, fun as r _ hr => ?_⟩
    rw [hown]
    intro sz xs hr0
    subst hr0
    unfold cloneF at hr
    split at hr
    · split at hr
      · rename_i hc
        simp only [Option.some.injEq, V.sl.injEq] at hr
        obtain ⟨_, rfl, rfl⟩ := hr
        rw [hc.1]
        exact hm.own E _ hc.2.1 hc.2.2
      · cases hr
    · cases hr

noncomputable def EX (P : Program) (gl : Nat → Option (List V)) (fs : List FuncId) (pu : FuncId → Bool) (bad : List (Nat × Nat)) (cl : List (Nat × Nat × Nat × Nat)) (ex : FuncId → Option (List V → Option V)) : Env :=
  { plainEnv P pu (envX ex cl) with
    func := fun g => if fs.contains g then P.funcs[g]? else none
    glob := gl
    own := ownX ex cl
    calm := fun f id => !(bad.any fun p => p.1 == f && p.2 == id) }

noncomputable def exCheck (P : Program) (gl : Nat → Option (List V)) (fs : List FuncId) (pu : FuncId → Bool) (bad : List (Nat × Nat)) (cl : List (Nat × Nat × Nat × Nat)) (ex : FuncId → Option (List V → Option V)) : Bool :=
  fs.all fun g => match P.funcs[g]? with
    | some fn => !(fn.name == "runtime.NumGoroutine") && (match fn.body with | some c => calmC (EX P gl fs pu bad cl ex) g c | none => true)
    | none => true

theorem EX_ok {P : Program} {gl : Nat → Option (List V)} {fs : List FuncId} {pu : FuncId → Bool} {bad : List (Nat × Nat)} {cl : List (Nat × Nat × Nat × Nat)} {ex : FuncId → Option (List V → Option V)} (hmix : P.follows .mixedOrders = true) (hck : exCheck P gl fs pu bad cl ex = true) : EnvOK (EX P gl fs pu bad cl ex) := by
  have hck := List.all_eq_true.1 hck
  refine ⟨fun t i h => h, ?_, hmix, ?_, ?_, ?_, ?_, fun t ks h => h, ?_⟩
  · intro g fn h
    simp only [EX] at h
    split at h
    · rename_i hg
      have := hck g (by simpa using hg)
      rw [h] at this
      simp only [Bool.and_eq_true, Bool.not_eq_true'] at this
      exact ⟨h, this.1⟩
    · cases h
  · intro g fn c h hb
    simp only [EX] at h
    split at h
    · rename_i hg
      have := hck g (by simpa using hg)
      rw [h] at this
      simp only [hb, Bool.and_eq_true] at this
      exact this.2
    · cases h
  · intro t k h
    simp only [EX, plainEnv] at h
    split at h
    · rename_i d hd
      simp only [Option.some.injEq] at h
      subst h
      exact hd
    · cases h
  · intro t h
    simp only [EX, plainEnv] at h
    split at h
    · rename_i hd; exact hd
    · cases h
  · intro t h
    simp only [EX, plainEnv] at h
    split at h
    · rename_i hd; exact hd
    · cases h
  · intro t h
    simp only [EX, plainEnv] at h
    split at h
    · rename_i e he
      split at h
      · rename_i hd; exact ⟨e, he, hd⟩
      · cases h
    · cases h

/-- A function without arguments that the kernel has run. -/
theorem closedX_ok {U : Univ} {P : Program} {gl : Nat → Option (List V)} {fs : List FuncId} {pu : FuncId → Bool} {bad : List (Nat × Nat)} {cl : List (Nat × Nat × Nat × Nat)} {ex : FuncId → Option (List V → Option V)} {E0 : Env} (hE0 : E0.glob = gl) (hmix : P.follows .mixedOrders = true) (hck : exCheck P gl fs pu bad cl ex = true) (hx : ∀ g F, ex g = some F → GivenOK P gl g F) (hcl : ∀ p ∈ cl, CloneOK P p.1 p.2.1 p.2.2.1 p.2.2.2) {f : FuncId} (hne : envX ex cl f = none) (hf : fs.contains f = true) (hp : pu f = true) {fn : Func} (hfn : P.funcs[f]? = some fn)
    (hb : fn.body.isNone = false) {n : Nat} {m : Mod U} (hts : m.ts = []) {a : U.Ty m.rt} (hm : ∀ x, m.fn x = some a) (h : (callD (EX P gl fs pu bad cl ex) (n + 1) f [] []).map (·.1) = some (U.enc m.rt a)) : FnOK P E0 f m := by
  have hE := EX_ok hmix hck
  have hname : (fn.name == "runtime.NumGoroutine") = false := (hE.func f fn (by simp only [EX, hf, if_true]; exact hfn)).2
  refine ⟨⟨fn, hfn, hb, hname⟩, fun x a' hx' => ?_⟩
  rw [hm x] at hx'
  cases hx'
  cases hc : callD (EX P gl fs pu bad cl ex) (n + 1) f [] [] with
  | none => simp [hc] at h
  | some rr =>
    obtain ⟨r, H'⟩ := rr
    simp only [hc, Option.map_some, Option.some.injEq] at h
    subst h
    have hpf := pureFn_of hE rfl (envX_fns (gl := gl) rfl rfl rfl (fun _ _ => rfl) hcl hx) hp hne rfl hc
    have he : encArgs m.ts x = [] := by
      have hl := encArgs_length x
      exact List.eq_nil_of_length_eq_zero (by rw [hl, congrArg List.length hts]; rfl)
    rw [he]
    intro fz w vs hcells hg hr
    exact hpf fz w vs hcells (fun g r hh => hg g r (by rw [hE0]; exact hh)) hr

end Go.Proofs.YtkepnndakhpgoaaGreatDoor.Le

/-
  A listed array of numbers, out of the row's condition.
-/
namespace Go.Proofs.YtkepnndakhpgoaaGreatDoor.Le
set_option linter.unusedVariables false
open Go.ChangeShapes Go.WideShapes Go.ChangeAt

theorem reps_ints {σ : Sg} {w : World} {ik : IntKind} : ∀ (ks : List Int), (∀ k ∈ ks, (Lit.int ik k).wf = true) → Reps σ w (ks.map fun n => V.lit (.int ik n)) (ks.map fun n => Value.int ik n)
  | [], _ => .nil
  | k :: ks, h => .lit (by simp [leaf, h k (by simp)]) (reps_ints ks fun j hj => h j (by simp [hj]))

theorem glob_ints {P : Program} {W : World} {name : String} {g tA e : Nat} {ik : IntKind} {ks : List Int} (hg : P.globalNamed name = some g) (ht : (P.globals[g]?).map (·.type) = some tA) (hA : P.underlying tA = some (.array ks.length e)) (he : P.underlying e = some (.int ik)) (hc : P.cellsOf e = 1) (hcA : P.cellsOf tA = ks.length)
    (hm : laidMetH P [(name, .agg (ks.map fun n => .lit (.int ik n)))] W) : Reps (bare (allFz W)) W [.ept ks.length [.agg (ks.map fun n => V.lit (.int ik n))] 0 0] [.pointer (some ⟨g, 0, none⟩)] := by
  rw [MakeChecks.laidMetH_plain _ _ _ (by rfl)] at hm
  obtain ⟨ps, ⟨g0, t0, cs0, f0, p0, q0, hg0, ht0, hv0, hd0, _, _⟩, _, _⟩ := hm
  obtain rfl := Option.some.inj (hg.symm.trans hg0)
  obtain rfl := Option.some.inj (ht.symm.trans ht0)
  obtain ⟨xs, m1, rfl, hx, hlen, hn, hel⟩ := DataW.trod_array hA hd0
  simp only [Prod.mk.injEq, DataW.agg.injEq] at hx
  rw [hcA] at hlen
  have hcell : ∀ i, i < ks.length → ∃ k, ks[i]? = some k ∧ cs0[i]? = some (.int ik k) ∧ (Lit.int ik k).wf = true := by
    intro i hi
    have h1 := hel i hi
    rw [hc, Nat.mul_one] at h1
    have hxi : i < xs.length := by omega
    rw [List.getElem?_eq_getElem hxi] at h1
    obtain ⟨k, e1, e2, e3⟩ := DataW.trod_int he h1
    refine ⟨k, ?_, ?_, e3⟩
    · have h2 := congrArg (·[i]?) hx.1
      simp only [List.getElem?_map, List.getElem?_eq_getElem hxi, List.getElem?_eq_getElem hi, Option.map_some, e2, Option.some.injEq, DataW.lit.injEq, Lit.int.injEq, true_and] at h2
      rw [List.getElem?_eq_getElem hi, h2]
    · have h3 : i < cs0.toList.length := by omega
      rw [List.drop_eq_getElem_cons h3] at e1
      simp only [List.take_succ_cons, List.take_zero, List.cons.injEq, and_true] at e1
      rw [← Array.getElem?_toList, List.getElem?_eq_getElem h3, e1]
  have hwf : ∀ k ∈ ks, (Lit.int ik k).wf = true := by
    intro k hk
    obtain ⟨i, hi, rfl⟩ := List.mem_iff_getElem.1 hk
    obtain ⟨k', h1, _, h3⟩ := hcell i hi
    rw [List.getElem?_eq_getElem hi] at h1
    obtain rfl := Option.some.inj h1
    exact h3
  have hone : ∀ u ∈ ks.map (fun n => Value.int ik n), u.oneCell' = true := by
    intro u hu
    obtain ⟨k, _, rfl⟩ := List.mem_map.1 hu
    rfl
  have hr := Reps.agg (reps_ints (σ := bare (allFz W)) (w := W) ks hwf) hone (xs := []) (vs := []) .nil
  have hfl : flat [Value.agg (ks.map fun n => Value.int ik n).toArray] = ks.map fun n => Value.int ik n := by simp [flat, Value.cells]
  have := Reps.ept (σ := bare (allFz W)) (w := W) (es := [.agg (ks.map fun n => V.lit (.int ik n))]) g 0 ks.length 0 0 hr ?_ ?_ ?_ ?_ (xs := []) (vs := []) .nil
  · simpa using this
  · intro x hx
    obtain rfl : x = V.agg (ks.map fun n => V.lit (.int ik n)) := by simpa using hx
    simp only [fzV, okV, noRef, Bool.true_and]
    rw [noRefs_iff]
    intro y hy
    obtain ⟨k, _, rfl⟩ := List.mem_map.1 hy
    rfl
  · intro u hu
    obtain rfl : u = Value.agg (ks.map fun n => Value.int ik n).toArray := by simpa using hu
    simp [Value.cells]
  · rw [hfl]; exact hone
  · intro j u hj
    rw [hfl, List.getElem?_map] at hj
    cases hk : ks[j]? with
    | none => simp [hk] at hj
    | some k =>
      simp only [hk, Option.map_some, Option.some.injEq] at hj
      subst hj
      obtain ⟨k', h1, h2, _⟩ := hcell j (List.getElem?_eq_some_iff.1 hk).1
      obtain rfl := Option.some.inj (hk.symm.trans h1)
      have := (World.var?_cell hg hv0 j).trans h2
      rw [Nat.zero_add]
      exact ⟨⟨_, this⟩, this⟩
end Go.Proofs.YtkepnndakhpgoaaGreatDoor.Le

