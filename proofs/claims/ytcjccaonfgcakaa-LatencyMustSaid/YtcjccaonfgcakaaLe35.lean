/-
  A law's statement out of what its function comes to: arguments of Lean's types, a contract for the row.
-/
import Derived.Test.YtcjccaonfgcakaaLe34
import Derived.Carry
import Derived.ProofKit
namespace Go.Proofs.Ytcjccaonfgcakaa.Le
set_option linter.unusedVariables false
open Go.RowKit (Below)
open Go.ChangeShapes

/-! ### values of Lean's types out of cells -/

structure CodecRd (P : Program) {Ty : Nat → Type} {T : Type} (c : Codec Ty T) (t : TypeId) (wf : T → Prop) : Prop where
  rd : ∀ (d : Nat) (xs : List V), HasTy P d t xs → ∃ a, c.encV a = xs ∧ wf a

structure SegRd (P : Program) {Ty : Nat → Type} {T : Type} (c : Codec Ty T) (ss : List (Nat × TypeId)) (off n : Nat) (wf : T → Prop) : Prop where
  rd : ∀ (d : Nat) (xs : List V), xs.length = n → (∀ s ∈ ss, HasTy P d s.2 ((xs.drop s.1).take (P.cellsOf s.2))) → ∃ a, c.encV a = xs.drop off ∧ wf a

def WI (k : IntKind) (a : Int) : Prop := (Lit.int k a).wf = true
def WB (_ : Bool) : Prop := True
def WS (s : ByteArray) : Prop := s.size ≤ maxLen
def WL {α : Type} (p : α → Prop) (xs : List α) : Prop := xs.length ≤ maxLen ∧ ∀ x ∈ xs, p x
def WU (_ : Unit) : Prop := True

section
variable {P : Program} {Ty : Nat → Type} {T : Type}

theorem CodecRd.int {k : IntKind} {t : TypeId} (ht : P.underlying t = some (.int k)) : CodecRd P (Codec.int k : Codec Ty Int) t (WI k) := by
  refine ⟨fun d xs h => ?_⟩
  cases d with
  | zero => exact h.elim
  | succ d =>
    unfold HasTy at h
    rw [ht] at h
    obtain ⟨n, rfl, hw⟩ := h
    exact ⟨n, rfl, hw⟩

theorem CodecRd.bool {t : TypeId} (ht : P.underlying t = some .bool) : CodecRd P (Codec.bool : Codec Ty Bool) t WB := by
  refine ⟨fun d xs h => ?_⟩
  cases d with
  | zero => exact h.elim
  | succ d =>
    unfold HasTy at h
    rw [ht] at h
    obtain ⟨n, rfl⟩ := h
    exact ⟨n, rfl, trivial⟩

theorem CodecRd.str {t : TypeId} (ht : P.underlying t = some .string) : CodecRd P (Codec.str : Codec Ty ByteArray) t WS := by
  refine ⟨fun d xs h => ?_⟩
  cases d with
  | zero => exact h.elim
  | succ d =>
    unfold HasTy at h
    rw [ht] at h
    obtain ⟨n, rfl, hw⟩ := h
    exact ⟨n, rfl, hw⟩

theorem list_rd {α : Type} {p : α → Prop} {e : α → V} : ∀ {xs : List V}, (∀ x ∈ xs, ∃ a, e a = x ∧ p a) → ∃ as : List α, as.map e = xs ∧ ∀ a ∈ as, p a := by
  intro xs
  induction xs with
  | nil => intro _; exact ⟨[], rfl, by simp⟩
  | cons x xs ih =>
    intro h
    obtain ⟨a, ha, hp⟩ := h x (by simp)
    obtain ⟨as, has, hps⟩ := ih (fun y hy => h y (by simp [hy]))
    refine ⟨a :: as, by simp [ha, has], fun b hb => ?_⟩
    rcases List.mem_cons.1 hb with rfl | hb
    · exact hp
    · exact hps b hb

theorem CodecRd.rows {t e n : Nat} {c : Codec Ty (Ty e)} {wf : Ty e → Prop} (ht : P.underlying t = some (.slice e)) (hn : P.cellsOf e = n) (hr : isRowT P e = true) (hc : CodecRd P c e wf) :
    CodecRd P (Codec.list e n (fun a => .agg (c.encV a)) : Codec Ty (List (Ty e))) t (WL wf) := by
  refine ⟨fun d xs h => ?_⟩
  cases d with
  | zero => exact h.elim
  | succ d =>
    unfold HasTy at h
    rw [ht] at h
    obtain ⟨ys, rfl, hl, hy⟩ := h
    obtain ⟨as, has, hp⟩ := list_rd (p := wf) (e := fun a => V.agg (c.encV a)) (xs := ys) (fun y hy' => by
      obtain ⟨h1, h2⟩ := hy y hy'
      rw [if_pos hr] at h1
      obtain ⟨ds, rfl⟩ := h1
      obtain ⟨a, ha, hw⟩ := hc.rd d _ h2
      exact ⟨a, by rw [ha]; rfl, hw⟩)
    subst hn
    exact ⟨as, by simp only [Codec.list, has], by rw [← List.length_map (f := fun a => V.agg (c.encV a)), has]; exact hl, hp⟩

theorem CodecRd.ones {t e n : Nat} {c : Codec Ty (Ty e)} {wf : Ty e → Prop} (ht : P.underlying t = some (.slice e)) (hn : P.cellsOf e = n) (hr : isRowT P e = false) (hc : CodecRd P c e wf) :
    CodecRd P (Codec.list e n (fun a => c.oneV a) : Codec Ty (List (Ty e))) t (WL wf) := by
  refine ⟨fun d xs h => ?_⟩
  cases d with
  | zero => exact h.elim
  | succ d =>
    unfold HasTy at h
    rw [ht] at h
    obtain ⟨ys, rfl, hl, hy⟩ := h
    obtain ⟨as, has, hp⟩ := list_rd (p := wf) (e := fun a => c.oneV a) (xs := ys) (fun y hy' => by
      obtain ⟨h1, h2⟩ := hy y hy'
      rw [if_neg (by simp [hr])] at h1
      obtain ⟨a, ha, hw⟩ := hc.rd d _ h2
      exact ⟨a, by simp only [Codec.oneV, ha, h1]; rfl, hw⟩)
    subst hn
    exact ⟨as, by simp only [Codec.list, has], by rw [← List.length_map (f := fun a => c.oneV a), has]; exact hl, hp⟩

theorem SegRd.unit {off n : Nat} (h : off = n) : SegRd P (Codec.unit : Codec Ty Unit) [] off n WU := by
  refine ⟨fun d xs hl _ => ⟨(), ?_, trivial⟩⟩
  subst h
  rw [← hl, List.drop_length]
  rfl

theorem SegRd.pair {A B : Type} {a : Codec Ty A} {b : Codec Ty B} {t off n k : Nat} {ss : List (Nat × TypeId)} {wa : A → Prop} {wb : B → Prop} (ha : CodecRd P a t wa) (hk : P.cellsOf t = k) (hb : SegRd P b ss (off + k) n wb) :
    SegRd P (Codec.pair a b) ((off, t) :: ss) off n (fun x => wa x.1 ∧ wb x.2) := by
  refine ⟨fun d xs hl h => ?_⟩
  obtain ⟨x, hx, hwx⟩ := ha.rd d _ (h (off, t) (by simp))
  obtain ⟨y, hy, hwy⟩ := hb.rd d xs hl (fun s hs => h s (by simp [hs]))
  refine ⟨(x, y), ?_, hwx, hwy⟩
  simp only [Codec.pair, hx, hy]
  rw [hk, ← List.drop_drop, List.take_append_drop]

theorem CodecRd.row {c : Codec Ty T} {t n : Nat} {dd : TypeDesc} {ss : List (Nat × TypeId)} {wf : T → Prop} (ht : P.underlying t = some dd) (hss : segsOf P dd = some ss) (hn : P.cellsOf t = n) (h : SegRd P c ss 0 n wf) : CodecRd P c t wf := by
  refine ⟨fun d xs hx => ?_⟩
  cases d with
  | zero => exact hx.elim
  | succ d =>
    unfold HasTy at hx
    rw [ht] at hx
    have key : xs.length = P.cellsOf t ∧ ∀ s ∈ ss, HasTy P d s.2 ((xs.drop s.1).take (P.cellsOf s.2)) := by
      cases dd with
      | struct fs => simp only at hx; rw [hss] at hx; exact hx
      | array m e => simp only at hx; rw [hss] at hx; exact hx
      | _ => simp [segsOf] at hss
    obtain ⟨a, ha, hw⟩ := h.rd d xs (key.1.trans hn) key.2
    exact ⟨a, by simpa using ha, hw⟩

theorem CodecRd.iso {A B : Type} {f : A → B} {g : B → A} {b : Codec Ty B} {t : TypeId} {wf : B → Prop} (hb : CodecRd P b t wf) (hfg : ∀ y, f (g y) = y) : CodecRd P (Codec.iso f g b) t (fun x => wf (f x)) := by
  refine ⟨fun d xs h => ?_⟩
  obtain ⟨y, hy, hw⟩ := hb.rd d xs h
  exact ⟨g y, by simp only [Codec.iso, hfg]; exact hy, by rw [hfg]; exact hw⟩

end

/-- A type of a universe out of cells. -/
structure TyRd (P : Program) (U : Univ) (t : TypeId) (wf : U.Ty t → Prop) : Prop where
  rd : ∀ d xs, HasTy P d t xs → ∃ a, U.enc t a = argV P t xs ∧ wf a

theorem TyRd.rows {P : Program} {U : Univ} {t : TypeId} {c : Codec U.Ty (U.Ty t)} {wf : U.Ty t → Prop} (hr : isRowT P t = true) (hc : CodecRd P c t wf) (he : ∀ a, U.enc t a = .agg (c.encV a)) : TyRd P U t wf := by
  refine ⟨fun d xs h => ?_⟩
  obtain ⟨a, ha, hw⟩ := hc.rd d xs h
  exact ⟨a, by rw [he, ha]; simp [argV, hr], hw⟩
theorem TyRd.ones {P : Program} {U : Univ} {t : TypeId} {c : Codec U.Ty (U.Ty t)} {wf : U.Ty t → Prop} (hr : isRowT P t = false) (hc : CodecRd P c t wf) (he : ∀ a, U.enc t a = c.oneV a) : TyRd P U t wf := by
  refine ⟨fun d xs h => ?_⟩
  obtain ⟨a, ha, hw⟩ := hc.rd d xs h
  exact ⟨a, by rw [he]; simp [argV, hr, Codec.oneV, ha], hw⟩

/-- Arguments of Lean's types, each as its type has it. -/
inductive AllRd (P : Program) (U : Univ) : (ts : List Nat) → (Args U ts → Prop) → Prop where
  | nil : AllRd P U [] (fun _ => True)
  | cons {t ts wf W} : TyRd P U t wf → AllRd P U ts W → AllRd P U (t :: ts) (fun x => wf x.1 ∧ W x.2)

theorem allRd_ok {P : Program} {U : Univ} {ts : List Nat} {W : Args U ts → Prop} (h : AllRd P U ts W) : ∀ {d : Nat} {as : List V}, ArgsRead P d ts as → ∃ x : Args U ts, encArgs ts x = as ∧ W x := by
  induction h with
  | nil => intro d as ha; cases ha; exact ⟨(), rfl, trivial⟩
  | cons ht _ ih =>
    intro d as ha
    cases ha with
    | cons h1 h2 =>
      obtain ⟨a, ha, hw⟩ := ht.rd _ _ h1
      obtain ⟨x, hx, hW⟩ := ih h2
      exact ⟨(a, x), by simp [encArgs, ha, hx], hw, hW⟩

/-! ### the row -/

section
variable {H : Type} {enc : TypeId × Value → H} {P : Program}

theorem trodAll_stays {W W' : World} {sp : Nat → Bool} (hl : laidOutB P = true) : ∀ {ts : List TypeId} {vs : List Value} {ds : List (DataW H)} {ps : List MemPlace}, (∀ t ∈ ts, P.readableRec t = true ∧ t < P.types.size) →
    DataW.TrodAll enc P W 0 (fun _ => true) true ts vs ds ps → Below W.heap.size W W' → (∀ p ∈ ps, p.block < W.heap.size) → (∀ p ∈ ps, sp p.block = true) → DataW.TrodAll enc P W' 0 sp true ts vs ds ps
  | [], [], [], _, _, h, _, _, _ => h
  | t :: ts, v :: vs, d :: ds, _, ht, ⟨p, q, h1, h2, e⟩, hb, hlt, hsp =>
    ⟨p, q, WideElems.Trod_stays hl (ht t (by simp)).1 (ht t (by simp)).2 h1 (fun x hx => hb.same (hlt x (by rw [e]; exact List.mem_append_left _ hx))) (fun x hx => hsp x (by rw [e]; exact List.mem_append_left _ hx)),
      trodAll_stays hl (fun t ht' => ht t (by simp [ht'])) h2 hb (fun x hx => hlt x (by rw [e]; exact List.mem_append_right _ hx)) (fun x hx => hsp x (by rw [e]; exact List.mem_append_right _ hx)), e⟩

/-- What a law leaves. -/
theorem law_post {f : Func} {s : ChangeSpec} {apart fresh handsOn again : Bool} {W W' : World} {args : Array Value} {ds gs : List (DataW H)} {before : List MemPlace} {tb : TypeId} (hl : laidOutB P = true) (hts : ∀ t ∈ f.params.toList, P.readableRec t = true ∧ t < P.types.size)
    (hW : DataW.Whole enc P f.params.toList s.vars apart W args.toList ds gs before) (hb : Below W.heap.size W W') (hr : f.resultTypes = #[tb]) (htb : P.underlying tb = some .bool)
    (h1 : (s.fn H (ds ++ gs)).results = [.lit (.bool true)]) (h2 : (s.fn H (ds ++ gs)).args = ds) (h3 : (s.fn H (ds ++ gs)).vars = gs)
    (hvars : ∀ (pv : List MemPlace), DataW.TrodVars enc P W (fun _ => true) s.vars gs pv → (∀ p ∈ pv, p.block < W.heap.size) → ∀ sp : Nat → Bool, (∀ p ∈ pv, sp p.block = true) → DataW.TrodVars enc P W' sp s.vars gs pv) :
    s.post enc P f apart fresh handsOn again W args (.bool true) W' := by
  have hlt := hW.lt
  have hW0 := hW
  obtain ⟨pa, pv, hA, hV, hps, hz, hn⟩ := hW
  have hold : ∀ p ∈ before, (fun b => decide (b < W.heap.size)) p.block = true := fun p hp => by simpa using hlt p hp
  have hpa : ∀ p ∈ pa, p ∈ before := fun p hp => by rw [hps]; exact List.mem_append_left _ hp
  have hpv : ∀ p ∈ pv, p ∈ before := fun p hp => by rw [hps]; exact List.mem_append_right _ hp
  have hargs : ∀ sp : Nat → Bool, (∀ p ∈ before, sp p.block = true) → DataW.TrodAll enc P W' 0 sp true f.params.toList args.toList (s.fn H (ds ++ gs)).args pa := fun sp hsp => by
    rw [h2]; exact trodAll_stays hl hts hA hb (fun p hp => hlt p (hpa p hp)) (fun p hp => hsp p (hpa p hp))
  have hvs : ∀ sp : Nat → Bool, (∀ p ∈ before, sp p.block = true) → DataW.TrodVars enc P W' sp s.vars (s.fn H (ds ++ gs)).vars pv := fun sp hsp => by
    rw [h3]; exact hvars pv hV (fun p hp => hlt p (hpv p hp)) sp (fun p hp => hsp p (hpv p hp))
  have hres : ∀ (b : Nat) (sp : Nat → Bool) (hd : Bool), DataW.TrodAll enc P W' b sp hd f.resultTypes.toList ((Value.bool true).resultList f.resultTypes.size) (s.fn H (ds ++ gs)).results [] := fun b sp hd => by
    rw [h1, hr]; exact trodAll_cons_mk (p := []) (p' := []) (RowKit.shut_bool htb _) trodAll_mk0
  refine ⟨ds, gs, before, [], pa, pv, hW0, hres _ _ _, hargs _ hold, hvs _ hold, World.keptBut_mono (fun p hp => ⟨hp, ?_⟩) (hb.frame (· ∈ before)), fun _ => ?_⟩
  · rw [hps, List.mem_append] at hp
    exact Or.inr hp
  · refine ⟨RowKit.ok_one hr rfl (RowKit.okWide_bool_mk htb _), _, _, ([] ++ pa) ++ pv, ⟨[] ++ pa, pv, trodAll_append (hargs _ (fun _ _ => rfl)) (hres _ _ _), hvs _ (fun _ _ => rfl), rfl, ?_, ?_⟩, ?_⟩
    · intro b off hp
      have hm : MemPlace.cell b off ∈ before := by rw [hps]; simpa using hp
      rw [hb.frozen (p := ⟨b, off, none⟩) (hlt _ hm)]
      exact hz b off hm
    · intro ha
      have := hn ha
      rw [hps] at this
      simpa using this
    · intro p hp _
      rw [hps]
      simpa using hp

/-- **A law's contract.** -/
theorem law_ok {U : Univ} {E0 : Env} {f : FuncId} {fn : Func} {m : Mod U} {s : ChangeSpec} {apart fresh handsOn again : Bool} {tb : TypeId} (hok : FnOK P E0 f m) {Wf : Args U m.ts → Prop} (hrd : AllRd P U m.ts Wf) (hpar : fn.params.toList = m.ts) {d : Nat} (hpl : ∀ t ∈ m.ts, plainTy P d t = true)
    (hl : laidOutB P = true) (hts : ∀ t ∈ m.ts, P.readableRec t = true ∧ t < P.types.size) (hr : fn.resultTypes = #[tb]) (htb : P.underlying tb = some .bool) {tt : U.Ty m.rt} (htt : U.enc m.rt tt = .lit (.bool true)) (htrue : ∀ x, Wf x → m.fn x = some tt)
    (hspec : ∀ (ds gs : List (DataW H)), ds.length = m.ts.length → gs.length = s.vars.length → (s.fn H (ds ++ gs)).results = [.lit (.bool true)] ∧ (s.fn H (ds ++ gs)).args = ds ∧ (s.fn H (ds ++ gs)).vars = gs)
    {W : World} {args : Array Value} {ds gs : List (DataW H)} {before : List MemPlace} (hval : ∀ (j : Nat) t v, fn.params[j]? = some t → args[j]? = some v → ∃ r b0, Value.okWide P W r b0 t v)
    (hW : DataW.Whole enc P fn.params.toList s.vars apart W args.toList ds gs before) (hg : GlobOK E0 (bare (allFz W)) W)
    (hvars : ∀ (W' : World), Below W.heap.size W W' → ∀ (pv : List MemPlace), DataW.TrodVars enc P W (fun _ => true) s.vars gs pv → (∀ p ∈ pv, p.block < W.heap.size) → ∀ sp : Nat → Bool, (∀ p ∈ pv, sp p.block = true) → DataW.TrodVars enc P W' sp s.vars gs pv)
    (hdl : ds.length = m.ts.length) (hgl : gs.length = s.vars.length) :
    Calls P f args W fun e W' => ∃ v, e = .returned v ∧ s.post enc P fn apart fresh handsOn again W args v W' := by
  have hW0 := hW
  obtain ⟨pa, pv, hA, hV, hps, hz, hn⟩ := hW
  rw [hpar] at hA
  obtain ⟨as, hreps, hread⟩ := args_ok hA hpl (fun j t v hj hv => hval j t v (by rw [← Array.getElem?_toList, hpar]; exact hj) (by rw [← Array.getElem?_toList]; exact hv))
  obtain ⟨x, hx, hwf⟩ := allRd_ok hrd hread
  have hcall := hok.pure x tt (htrue x hwf) (allFz W) W args.toList (fun b c hh => hh) hg (by rw [hx]; exact hreps)
  refine hcall.mono ?_
  rintro e W' ⟨u, fz', rfl, hb, _, _, _, hru, _⟩
  rw [htt] at hru
  cases hru with
  | lit _ _ =>
    obtain ⟨s1, s2, s3⟩ := hspec ds gs hdl hgl
    exact ⟨_, rfl, law_post hl (by rw [hpar]; exact hts) hW0 hb hr htb s1 s2 s3 (hvars W' hb)⟩

end

end Go.Proofs.Ytcjccaonfgcakaa.Le
