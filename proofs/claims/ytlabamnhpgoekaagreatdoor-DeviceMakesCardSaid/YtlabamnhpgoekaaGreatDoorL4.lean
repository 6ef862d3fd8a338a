/- A part of it. -/
import Derived.Test.YtlabamnhpgoekaaGreatDoorL3
set_option linter.unusedVariables false
set_option linter.unusedSimpArgs false
namespace Go.Proofs.YtlabamnhpgoekaaGreatDoor.Le
open Go.RowKit (Below)
def KU (P:Program) (E:Env) (f:FuncId) (as:List V) (r:V):Prop:=
 ∀(fz:Nat->Nat->Prop) (w:World) (vs:List Value),(∀b c,fz b c->∃u,w.cell? ⟨b,c,none⟩=some u)->CW E (bare fz) w->AL (bare fz) w as vs ->
  Calls P f vs.toArray w fun e w' =>∃u fz',e = .returned u/\Below w.heap.size w w' /\ (∀b c,fz b c->fz' b c)/\(∀b c,fz' b c->b<w.heap.size->fz b c) /\
   (∀b c,fz' b c->∃u,w'.cell? ⟨b,c,none⟩=some u)/\AL (bare fz') w' [r] [u]/\BQ r=true
def Xv (P:Program) (E:Env) (f:FuncId) (as:List V) (e sz:Nat) (xs:List V):Prop:=
 ∀(fz:Nat->Nat->Prop) (w:World) (vs:List Value),(∀b c,fz b c->∃u,w.cell? ⟨b,c,none⟩=some u)->CW E (bare fz) w->AL (bare fz) w as vs ->
  Calls P f vs.toArray w fun en w' =>∃u us fz',en = .returned u/\Below w.heap.size w w' /\ (∀b c,fz b c->fz' b c)/\(∀b c,fz' b c->b<w.heap.size->fz b c) /\
   (∀b c,fz' b c->∃u,w'.cell? ⟨b,c,none⟩=some u)/\AL (bare fz') w' xs us/\(∀x∈xs,Dp x=true)/\(∀u∈us,u.cells.size=sz)/\(∀u∈flat us,u.oneCell' = true) /\
   E5 w' w.heap.size e sz u xs.length (flat us)/\(∀g c,u.ownBlock=some g->¬fz' g c)
def JG (P:Program) (f:FuncId):Prop:=∃fn,P.funcs[f]? = some fn/\fn.body.isNone=false/\(fn.name == "runtime.NumGoroutine")=false
structure Ko (P:Program) (E:Env):Prop where
 env:∀f F,E.env f=some F->JG P f/\∀as r,BJ as=true->F as=some r->match E.own f with|none=>KU P E f as r|some e=>∀sz xs,r = .sl false sz xs->Xv P E f as e sz xs
 hm:∀f key hs,E.hm f key=some hs->JG P f/\∀as H0 r H1,hs.run as H0=some (r,H1)->PU P E f as H0 r H1
 maps:∀f l,E.maps f=some l->JG P f/\∀x H,PU P E f [x] H (mkV l x) H
structure Lj (P:Program) where
 tab:FuncId->Option (List (Int×FuncId))
 ok:∀f l,tab f=some l->JG P f/\∀E x H,PU P E f [x] H (mkV l x) H
def Lj.no (P:Program):Lj P:=⟨fun _=>none,fun _ _ h=>by cases h⟩
theorem Below.grownBy {w w' : World} (h:Below w.heap.size w w'):w.grownBy w' none:=⟨h.os,h.tape,h.output,h.size,fun k hk _=>h.block k hk⟩
theorem lC {B w0 σ H w} (h:Inv B w0 σ H w) {x x' : V} {v:Value} (hr:AL σ w [x] [v]) (hf:IB H x=some x'):BQ x' = true:=by
 unfold IB at hf
 split at hf
 ·rename_i vs
  cases hr with
  | Aw h1 _=>
   cases hl:EE H vs with
   | none=>simp [hl] at hf
   | some vs' =>
    simp only [hl,Option.map_some,Option.some.injEq] at hf
    subst hf
    exact TZ h h1 hl
 ·exact XL h hr hf
section
variable {P:Program} {E:Env} {B:Nat} {w0:Start} {σ:Sg} {H:Heap} {w:World} {f:FuncId}
theorem Z1v {args as:List V} {r:V} {vs:List Value} (ts:List TypeId) (hp:KU P E f (Eo E.rows ts as) r) (hf:EE H args=some as) (hI:Inv B w0 σ H w) (hg:CW E σ w) (hr:AL σ w args vs) :
  Calls P f vs.toArray w fun e w' =>∃u σ',e = .returned u/\Inv B w0 σ' (bump H (args.flatMap CV)) w' /\ Ext σ w σ' w' /\ AL σ' w' [r] [u]:=by
 obtain⟨hI1,hEx1⟩:=hI.freeze (args.flatMap CV)
 have hr1:=fB E.rows ts (Wi hI hr hf (args.flatMap CV) (fun i hi=>hi))
 have hn:BJ (Eo E.rows ts as)=true:=by rw [WC];exact TZ hI hr hf
 generalize hσ1:σ.freeze H (args.flatMap CV)=σ1 at hI1 hEx1 hr1
 have hbox1:σ1.box=σ.box:=by rw [<- hσ1];rfl
 have hfz0:∀b c,σ1.fz b c->(bare σ1.fz).fz b c/\w.cell? ⟨b,c,none⟩=w.cell? ⟨b,c,none⟩:=fun b c h=>⟨h,rfl⟩
 refine(hp σ1.fz w vs hI1.cells ((hg.ext hEx1).bare hfz0 (DF.refl _)) (hr1.bare hfz0 (DF.refl _) hn)).mono ?_
 rintro e w' ⟨u,fz',rfl,hb,hmono,hold,hcells,hru,hnr⟩
 obtain⟨hI2,hEx2⟩:=hI1.grown (Below.grownBy hb)
 have hcell:∀b c,σ1.fz b c->w'.cell? ⟨b,c,none⟩=w.cell? ⟨b,c,none⟩:=fun b c h=>(hEx2.fz b c h).2
 have hex:Ext σ1 w' ⟨σ1.box,fz'⟩ w' :=⟨fun id L hL=>⟨L,hL,rfl,.inl rfl⟩,fun b c h=>⟨hmono b c h,rfl⟩,DF.refl _⟩
 refine⟨u,⟨σ1.box,fz'⟩,rfl,⟨hI2.below,hI2.size,hI2.dom,fun id bx hb hl=>?_,hI2.apart,hcells,fun b c hc id bx L hb hl hL hown=>?_,hI2.low,fun b c hc hlt=>?_,fun b hb=>?_⟩,hEx1.trans (hEx2.trans hex),?_⟩
 ·obtain⟨L,hL,hok⟩:=hI2.boxes id bx hb hl
  obtain⟨us,h1,h2,h3,h4⟩:=hok.CU
  exact⟨L,hL,⟨hok.tot,⟨us,h1.ext hex,h2,h3,h4⟩,hok.DZ,hok.AZ,hok.oks,hok.F7⟩⟩
 ·obtain⟨L',hL',hok⟩:=hI1.boxes id bx hb hl
  rw [show σ1.box id=some L from hL] at hL'
  cases hL'
  exact hI1.floor b c (hold b c hc (hok.block_lt hown).2) id bx L hb hl hL hown
 ·exact hI1.old b c (hold b c hc (Nat.lt_of_lt_of_le hlt hI1.size)) hlt
 ·obtain⟨k1,k2,k3,k4⟩:=hI2.kept b hb
  exact⟨k1,k2,k3,fun c hc=>k4 c (hold b c hc (hI1.kept b hb).1)⟩
 ·exact hru.bare (fun b c h=>⟨h,rfl⟩) (DF.refl _) (by simp [BJ,hnr])
theorem ownsRow_base {w:World} {b b' e sz n:Nat} {v:Value} {us:List Value} (h:E5 w b e sz v n us) (hb:b' <= b):E5 w b' e sz v n us:=by
 refine⟨h.1,?_⟩
 rcases h.2 with h|⟨g,cap,cur,tg,h1,h2,h3⟩
 ·exact .inl h
 ·exact .inr ⟨g,cap,cur,tg,h1,by omega,h3⟩
theorem Z1A {args as:List V} {e sz:Nat} {xs:List V} {vs:List Value} (ts:List TypeId) (hp:Xv P E f (Eo E.rows ts as) e sz xs) (hf:EE H args=some as) (hI:Inv B w0 σ H w) (hg:CW E σ w) (hr:AL σ w args vs) :
  Calls P f vs.toArray w fun en w' =>∃u σ',en = .returned u/\Inv B w0 σ' (place (bump H (args.flatMap CV)) H.length (BH true false e sz xs)) w' /\ Ext σ w σ' w' /\ AL σ' w' [.Az H.length 0 xs.length xs.length] [u]:=by
 obtain⟨hI1,hEx1⟩:=hI.freeze (args.flatMap CV)
 have hr1:=fB E.rows ts (Wi hI hr hf (args.flatMap CV) (fun i hi=>hi))
 have hn:BJ (Eo E.rows ts as)=true:=by rw [WC];exact TZ hI hr hf
 generalize hσ1:σ.freeze H (args.flatMap CV)=σ1 at hI1 hEx1 hr1
 have hfz0:∀b c,σ1.fz b c->(bare σ1.fz).fz b c/\w.cell? ⟨b,c,none⟩=w.cell? ⟨b,c,none⟩:=fun b c h=>⟨h,rfl⟩
 refine(hp σ1.fz w vs hI1.cells ((hg.ext hEx1).bare hfz0 (DF.refl _)) (hr1.bare hfz0 (DF.refl _) hn)).mono ?_
 rintro en w' ⟨u,us,fz',rfl,hb,hmono,hold,hcells,hru,hfzv,hsz,hone,hown,hnfz⟩
 obtain⟨hI2,hEx2⟩:=hI1.grown (Below.grownBy hb)
 have hex:Ext σ1 w' ⟨σ1.box,fz'⟩ w' :=⟨fun id L hL=>⟨L,hL,rfl,.inl rfl⟩,fun b c h=>⟨hmono b c h,rfl⟩,DF.refl _⟩
 have hI3:Inv B w0 ⟨σ1.box,fz'⟩ (bump H (args.flatMap CV)) w' :=by
  refine⟨hI2.below,hI2.size,hI2.dom,fun id bx hb hl=>?_,hI2.apart,hcells,fun b c hc id bx L hb hl hL hown=>?_,hI2.low,fun b c hc hlt=>?_,fun b hb=>?_⟩
  ·obtain⟨L,hL,hok⟩:=hI2.boxes id bx hb hl
   obtain⟨us,h1,h2,h3,h4⟩:=hok.CU
   exact⟨L,hL,⟨hok.tot,⟨us,h1.ext hex,h2,h3,h4⟩,hok.DZ,hok.AZ,hok.oks,hok.F7⟩⟩
  ·obtain⟨L',hL',hok⟩:=hI1.boxes id bx hb hl
   rw [show σ1.box id=some L from hL] at hL'
   cases hL'
   exact hI1.floor b c (hold b c hc (hok.block_lt hown).2) id bx L hb hl hL hown
  ·exact hI1.old b c (hold b c hc (Nat.lt_of_lt_of_le hlt hI1.size)) hlt
  ·obtain⟨k1,k2,k3,k4⟩:=hI2.kept b hb
   exact⟨k1,k2,k3,fun c hc=>k4 c (hold b c hc (hI1.kept b hb).1)⟩
 have hblk:∀g,u.ownBlock=some g->w.heap.size<=g:=by
  intro g hg'
  rcases hown.2 with ⟨hv,_⟩|⟨g',cap,cur,tg,hv,hle,_⟩
  ·rw [hv] at hg';cases hg'
  ·rw [hv] at hg'
   simp only [Value.ownBlock,Option.some.injEq] at hg'
   omega
 have hnr:BJ xs=true:=MZ hfzv
 have hk:EL (bump H (args.flatMap CV)) H.length=true:=by
  have:=UB (bump H (args.flatMap CV))
  rwa [bump_length] at this
 obtain⟨hI4,hEx4⟩:=hI3.Zij hk (BH true false e sz xs) rfl ⟨u,xs.length,sz⟩ (by simp [BH])
  (fun id bx' L' g h1 h2 h3 h4 h5=>by
   obtain⟨L'',hL'',hok⟩:=hI1.boxes id bx' h1 h2
   rw [show σ1.box id=some L' from h3] at hL''
   cases hL''
   have:=(hok.block_lt h4).2
   grind)
  (fun g c h=>hnfz g c h) (fun g h hk=>by have:=(hI1.kept g hk).1;have:=hblk g h;omega)
  ⟨rfl,⟨us,hru.bare (fun b c h=>⟨h,rfl⟩) (DF.refl _) hnr,hsz,hone,by simpa [BH] using ownsRow_base hown hI1.size⟩,by simp [BH],rfl,o8 hfzv,fun _ x hx=>OE (hfzv x hx)⟩
 have hval:∃a n c,u = .slice a n c/\n=xs.length/\n<=c:=by
  rcases hown.2 with ⟨hv,hn⟩|⟨g,cap,cur,tg,hv,_,_,_,hnc,_⟩
  ·grind
  ·grind
 obtain⟨a,n,c,hv,hn',hnc⟩:=hval
 refine⟨u,_,rfl,hI4,hEx1.trans (hEx2.trans (hex.trans hEx4)),.Az (L:=⟨u,xs.length,sz⟩) (by simp [Sg.put]) (Nat.le_refl _) (fun _=>⟨by omega,a,n,c,0,hv,?_,Nat.zero_le _,Nat.le_refl _,fun _=>rfl⟩) ⟨a,n,c,hv⟩ .nil⟩
 subst hn'
 rw [hv]
 cases a with
 | none=>simp
 | some a=>simp [Addr.add]
theorem Z3k (hE:BP E) (hP:E.P=P) {call:CS} (hcall:IV P E B w0 call) (hpure:La E call) {fn:Func} (hfn:E.func f=some fn) {n:Nat} {args:List V} {H' : Heap} {r:V} {vs:List Value}
  (hb:Kt call n E f fn args H=some (r,H')) (hI:Inv B w0 σ H w) (hg:CW E σ w) (hr:AL σ w args vs) :
  JG P f/\Calls P f vs.toArray w fun e w' =>∃u σ',e = .returned u/\Inv B w0 σ' H' w' /\ Ext σ w σ' w' /\ AL σ' w' [r] [u]:=by
 unfold Kt at hb
 cases hbody:fn.body with
 | none=>simp [hbody] at hb
 | some c=>
  simp only [hbody] at hb
  obtain⟨hf1,hf2⟩:=hE.func f fn hfn
  rw [hP] at hf1
  refine⟨⟨fn,hf1,by simp [hbody],hf2⟩,calls_of_wp hf1 hbody ?_⟩
  have hcm:=hE.calm f fn c hfn hbody
  have hslots:AL σ w (args++List.replicate (fn.ntmps - args.length) Ce) (vs.toArray++Array.replicate (fn.ntmps - vs.toArray.size) undef).toList:=by
   simp only [Array.toList_append,Array.toList_replicate,List.size_toArray]
   rw [<- hr.length]
   exact hr.append (AL.replicate _ (.no .nil))
  have hrel:Dk E B w0 σ ⟨args++List.replicate (fn.ntmps - args.length) Ce,H⟩ { tmps:=vs.toArray++Array.replicate (fn.ntmps - vs.toArray.size) undef,defers:=[] } w:=⟨hI,hg,hslots,rfl⟩
  have hfin:∀st,(JD E st.H st.s fn.results.toList).map (·,st.H)=some (r,H')->∀a' w' σ',Dk E B w0 σ' st a' w' -> Ext σ w σ' w' ->
    a'.defers=[]/\∃v,(results fn a'.tmps).run P w' = .ok v w' /\ (fun e w' =>∃u σ',e=Ending.returned u/\Inv B w0 σ' H' w' /\ Ext σ w σ' w' /\ AL σ' w' [r] [u]) (.returned v) w' :=by
   intro st hres a' w' σ' hr' he'
   cases hx:JD E st.H st.s fn.results.toList with
   | none=>simp [hx] at hres
   | some x=>
    simp only [hx,Option.map_some,Option.some.injEq,Prod.mk.injEq] at hres
    obtain⟨rfl,rfl⟩:=hres
    obtain⟨u,hu,hur⟩:=Tn (P:=P) hE hP hr'.inv hr'.slots hx
    exact⟨hr'.calm,u,hu,u,σ',rfl,hr'.inv,he',hur⟩
  split at hb
  ·rename_i st hc
   exact PN hE hP hcall hpure (pW hE hP hcall hpure n) c _ .normal st hcm hc _ σ _ w hrel (hfin st hb)
  ·rename_i st hc
   exact PN hE hP hcall hpure (pW hE hP hcall hpure n) c _ .ret st hcm hc _ σ _ w hrel (hfin st hb)
  ·cases hb
theorem mJ (hE:BP E) (hP:E.P=P) {call:CS} (hcall:∀B w0,IV P E B w0 call) (hpure:La E call) {fn:Func} (hfn:E.func f=some fn) {n:Nat} {as:List V} {H' : Heap} {r0 r:V}
  (hb:Kt call n E f fn as []=some (r0,H')) (hfr:IB H' r0=some r):KU P E f as r:=by
 intro fz w vs hcells hg hr
 have hI:Inv w.heap.size (Start.of w fz) (bare fz) [] w:=⟨Below.refl _ w,Nat.le_refl _,fun id L hL=>(by cases hL),fun id bx hb=>by simp at hb,fun i j b1 b2 L1 L2 g h1=>by simp at h1,hcells,
  fun b c hc id bx L hb=>by simp at hb,fun id bx hb=>by simp at hb,fun b c hc _=>hc,fun b hb=>hb.elim⟩
 obtain⟨_,hc⟩:=Z3k hE hP (hcall w.heap.size (Start.of w fz)) hpure hfn hb hI hg hr
 refine hc.mono ?_
 rintro e w' ⟨u,σ',rfl,hI',hEx',hr'⟩
 obtain⟨hI2,hEx2⟩:=hI'.freeze (MK r0)
 have hr2:=nI hI' hr' hfr (MK r0) (fun i hi=>hi)
 have hn:=lC hI' hr' hfr
 refine⟨u,(σ'.freeze H' (MK r0)).fz,rfl,hI2.below,fun b c h=>(hEx2.fz b c (hEx'.fz b c h).1).1,fun b c h hlt=>hI2.old b c h hlt,hI2.cells,?_,hn⟩
 exact hr2.bare (fun b c h=>⟨h,rfl⟩) (DF.refl _) (by simp [BJ,hn])
theorem Z9n {H:Heap}:∀{xs ys:List V},EE H xs=some ys->xs.length=ys.length:=by
 intro xs
 induction xs with
 | nil=>intro ys h;simp [EE] at h;subst h;rfl
 | cons x xs ih=>
  intro ys h
  simp only [EE] at h
  grind
theorem ZdX {H H' : Heap} {x:V} (h:Bi (Ba x) H H'):MG H' x=MG H x:=by
 unfold MG
 split
 ·rename_i id i off tot
  split
  ·cases hb:CB H id tot with
   | none=>rw [Ou (h id (by simp [Ba,Cj])) hb]
   | some b=>
    obtain⟨b',h1,h2⟩:=ND (h id (by simp [Ba,Cj])) hb
    obtain⟨e1,e2,e3,e4,e5⟩:=PO h2
    simp_all
  ·rfl
 ·exact Z3f h
theorem ZbZ {H H' : Heap} {xs:List V} (h:Bi (xs.flatMap Ba) H H'):JE H' xs=JE H xs:=by
 induction xs with
 | nil=>rfl
 | cons x xs ih=>
  simp only [JE]
  rw [ZdX (fun i hi=>h i (by simp [hi])),ih (fun i hi=>h i (by rw [List.flatMap_cons];exact List.mem_append_right _ hi))]
theorem ZcA (n:Nat):YK E (Cm E n):=by
 intro f hp args H v H1 h
 cases n with
 | zero=>cases h
 | succ n=>
  unfold Cm at h
  cases hmk:E.maps f with
  | some l=>
   simp only [hmk] at h
   split at h
   ·rename_i x
    split at h
    ·rename_i hi
     simp only [Option.some.injEq,Prod.mk.injEq] at h
     obtain⟨rfl,rfl⟩:=h
     have hi' : [x].flatMap CV=[]:=by simpa using hi
     refine⟨by rw [hi'];rfl,fun H' _=>?_⟩
     unfold Cm
     simp only [hmk]
     rw [if_pos hi,hi']
     rfl
    ·cases h
   ·cases h
  | none=>
  simp only [hmk] at h
  have hp:((E.pure f||(E.env f).isSome)&&(E.own f).isNone)=true:=by simpa [Ob,hmk] using hp
  cases henv:E.env f with
  | some F=>
   simp only [henv] at h
   by_cases hq:args.any P8=true
   ·rw [if_pos hq] at h
    have ho:E.own f=none:=by simpa using (Bool.and_eq_true_iff.1 hp).2
    cases hf:JE H args with
    | none=>simp [hf,ho] at h
    | some as=>
     simp only [hf,ho] at h
     cases hF:F (Eo E.rows (E.par f) as) with
     | none=>simp [hF] at h
     | some r=>
      simp only [hF] at h
      split at h
      ·rename_i hfl
       simp only [Option.some.injEq,Prod.mk.injEq] at h
       refine⟨h.2.symm,fun H' hs=>?_⟩
       unfold Cm
       simp only [hmk,henv]
       rw [if_pos hq,ZbZ hs,hf]
       simp only [ho,hF]
       rw [if_pos hfl,h.1]
      ·cases h
   rw [if_neg hq] at h
   cases hf:EE H args with
   | none=>simp [hf] at h
   | some as=>
    have ho:E.own f=none:=by simpa using (Bool.and_eq_true_iff.1 hp).2
    simp only [hf,ho] at h
    cases hF:F (Eo E.rows (E.par f) as) with
    | none=>simp [hF] at h
    | some r=>
     simp only [hF,Option.map_some,Option.some.injEq,Prod.mk.injEq] at h
     refine⟨h.2.symm,fun H' hs=>?_⟩
     unfold Cm
     simp only [hmk,henv]
     rw [if_neg hq,kH hs,hf]
     simp only [ho,hF,Option.map_some,h.1]
  | none=>
   have hpf:E.pure f=true:=by simpa [henv] using (Bool.and_eq_true_iff.1 hp).1
   simp only [henv,hpf,if_true] at h
   cases hfn:E.func f with
   | none=>simp [hfn] at h
   | some fn=>
    simp only [hfn] at h
    cases hf:EE H args with
    | none=>simp [hf] at h
    | some as=>
     simp only [hf] at h
     cases hbd:Kt (Cm E n) n E f fn as [] with
     | none=>simp [hbd] at h
     | some rr=>
      obtain⟨r0,H2⟩:=rr
      simp only [hbd] at h
      cases hft:IB H2 r0 with
      | none=>simp [hft] at h
      | some r=>
       simp only [hft,Option.map_some,Option.some.injEq,Prod.mk.injEq] at h
       refine⟨h.2.symm,fun H' hs=>?_⟩
       unfold Cm
       simp only [hmk,henv,hpf,if_true,hfn]
       rw [kH hs,hf]
       simp_all
theorem XK (H:Heap) (a b:List Nat):bump (bump H a) b=bump H (a++b):=by
 induction a generalizing H with
 | nil=>rfl
 | cons i a ih=>simp only [bump,List.cons_append,ih]
theorem Z1z {f:Fk} {H H1:Heap} {x y:V} (h:EW f H x=some (y,H1)) (hn:DU y=[]):∃ids,(∀i∈ids,i∈Cj x)/\H1=bump H ids/\∀H',Bi (Cj x) H H' -> EW f H' x=some (y,bump H' ids):=by
 cases f with
 | s e sz=>
  simp only [EW] at h
  cases hf:Ee H x with
  | none=>simp [hf] at h
  | some w=>
   simp only [hf,Option.map_some,Option.some.injEq,Prod.mk.injEq] at h
   obtain⟨rfl,rfl⟩:=h
   exact⟨Dn x,fun i hi=>Z32 hi,rfl,fun H' hs=>by simp only [EW,oC hs,hf,Option.map_some]⟩
 | own e sz=>
  exfalso
  simp only [EW,Rt] at h
  split at h
  ·simp only [Option.some.injEq,Prod.mk.injEq] at h
   rw [<- h.1] at hn
   simp [DU] at hn
  ·simp only [Option.some.injEq,Prod.mk.injEq] at h
   rw [<- h.1] at hn
   simp [DU] at hn
  ·split at h
   ·simp only [Option.some.injEq,Prod.mk.injEq] at h
    rw [<- h.1] at hn
    simp [DU] at hn
   ·cases h
  ·cases h
 | keep=>
  simp only [EW,Option.some.injEq,Prod.mk.injEq] at h
  obtain⟨rfl,rfl⟩:=h
  exact⟨[],by simp,rfl,fun H' _=>rfl⟩
 | drop=>
  simp only [EW,Option.some.injEq,Prod.mk.injEq] at h
  obtain⟨rfl,rfl⟩:=h
  exact⟨[],by simp,rfl,fun H' _=>rfl⟩
theorem ZdC:∀{fl:List Fk} {H H1:Heap} {xs ys:List V},ER fl H xs=some (ys,H1)->CJ ys=[]->∃ids,(∀i∈ids,i∈xs.flatMap Cj)/\H1=bump H ids/\∀H',Bi (xs.flatMap Cj) H H' -> ER fl H' xs=some (ys,bump H' ids):=by
 intro fl
 induction fl with
 | nil=>
  intro H H1 xs ys h hn
  cases xs with
  | nil=>
   simp only [ER,Option.some.injEq,Prod.mk.injEq] at h
   obtain⟨rfl,rfl⟩:=h
   exact⟨[],by simp,rfl,fun H' _=>rfl⟩
  | cons=>simp [ER] at h
 | cons f fl ih=>
  intro H H1 xs ys h hn
  cases xs with
  | nil=>simp [ER] at h
  | cons x xs=>
   simp only [ER] at h
   cases h1:EW f H x with
   | none=>simp [h1] at h
   | some r=>
    obtain⟨y,Ha⟩:=r
    simp only [h1] at h
    cases h2:ER fl Ha xs with
    | none=>simp [h2] at h
    | some q=>
     obtain⟨zs,Hb⟩:=q
     simp only [h2,Option.some.injEq,Prod.mk.injEq] at h
     obtain⟨rfl,rfl⟩:=h
     simp only [CJ,List.append_eq_nil_iff] at hn
     obtain⟨i1,a1,rfl,a3⟩:=Z1z h1 hn.1
     obtain⟨i2,b1,rfl,b3⟩:=ih h2 hn.2
     refine⟨i1++i2,fun i hi=>?_,XK H i1 i2,fun H' hs=>?_⟩
     ·grind
     ·have hs1:Bi (Cj x) H H' :=fun i hi=>hs i (by simp_all)
      have hs2:Bi (xs.flatMap Cj) (bump H i1) (bump H' i1):=(OJ _ i1 H).symm.trans (Bi.trans (fun i hi=>hs i (by simp_all)) (OJ _ i1 H'))
      simp only [ER,a3 H' hs1,b3 _ hs2,XK]
theorem Zct {fl:List Fk} {H H1:Heap} {x y:V} (h:Gg fl H x=some (y,H1)) (hn:DU y=[]):∃ids,(∀i∈ids,i∈Ba x)/\H1=bump H ids/\∀H',Bi (Ba x) H H' -> Gg fl H' x=some (y,bump H' ids):=by
 unfold Gg at h
 split at h
 ·rename_i cs
  cases h1:ER fl H cs with
  | none=>simp [h1] at h
  | some r=>
   obtain⟨ys,Ha⟩:=r
   simp only [h1,Option.map_some,Option.some.injEq,Prod.mk.injEq] at h
   obtain⟨rfl,rfl⟩:=h
   obtain⟨ids,a1,a2,a3⟩:=ZdC h1 (by simpa [DU] using hn)
   exact⟨ids,a1,a2,fun H' hs=>by simp only [Gg,a3 H' hs,Option.map_some]⟩
 ·rename_i hne
  have hr:∀i∈Cj x,i∈Ba x:=fun i hi=>by
   cases x with
   | fn f a b=>simp [Cj] at hi
   | agg cs=>simp_all
   | _=>exact hi
  split at h
  ·rename_i f
   obtain⟨ids,a1,a2,a3⟩:=Z1z h hn
   refine⟨ids,fun i hi=>hr i (a1 i hi),a2,fun H' hs=>?_⟩
   unfold Gg
   split
   ·simp_all
   ·exact a3 H' (fun i hi=>hs i (hr i hi))
  ·cases h
theorem ZdD:∀{fa:List (List Fk)} {H H1:Heap} {xs ys:List V},EU fa H xs=some (ys,H1)->CJ ys=[]->∃ids,(∀i∈ids,i∈xs.flatMap Ba)/\H1=bump H ids/\∀H',Bi (xs.flatMap Ba) H H' -> EU fa H' xs=some (ys,bump H' ids):=by
 intro fl
 induction fl with
 | nil=>
  intro H H1 xs ys h hn
  cases xs with
  | nil=>
   simp only [EU,Option.some.injEq,Prod.mk.injEq] at h
   obtain⟨rfl,rfl⟩:=h
   exact⟨[],by simp,rfl,fun H' _=>rfl⟩
  | cons=>simp [EU] at h
 | cons f fl ih=>
  intro H H1 xs ys h hn
  cases xs with
  | nil=>simp [EU] at h
  | cons x xs=>
   simp only [EU] at h
   cases h1:Gg f H x with
   | none=>simp [h1] at h
   | some r=>
    obtain⟨y,Ha⟩:=r
    simp only [h1] at h
    cases h2:EU fl Ha xs with
    | none=>simp [h2] at h
    | some q=>
     obtain⟨zs,Hb⟩:=q
     simp only [h2,Option.some.injEq,Prod.mk.injEq] at h
     obtain⟨rfl,rfl⟩:=h
     simp only [CJ,List.append_eq_nil_iff] at hn
     obtain⟨i1,a1,rfl,a3⟩:=Zct h1 hn.1
     obtain⟨i2,b1,rfl,b3⟩:=ih h2 hn.2
     refine⟨i1++i2,fun i hi=>?_,XK H i1 i2,fun H' hs=>?_⟩
     ·grind
     ·have hs1:Bi (Ba x) H H' :=fun i hi=>hs i (by simp_all)
      have hs2:Bi (xs.flatMap Ba) (bump H i1) (bump H' i1):=(OJ _ i1 H).symm.trans (Bi.trans (fun i hi=>hs i (by simp_all)) (OJ _ i1 H'))
      simp only [EU,a3 H' hs1,b3 _ hs2,XK]
theorem ZcP {n:Nat} {H H2:Heap} {todo ids:List Nat} (h:GK n [] H todo []=some (H2,ids)):todo=[]/\H2=H/\ids=[]:=by
 cases n with
 | zero=>cases h
 | succ n=>
  cases todo with
  | nil=>
   simp only [GK,Option.some.injEq,Prod.mk.injEq] at h
   simp_all
  | cons i todo=>
   exfalso
   unfold GK at h
   simp_all
theorem Zcc {hs:Ph} (hfb:hs.fb=[]) {args:List V} {H H1:Heap} {v:V} (h:Ij hs args H=some (v,H1)) :
  ∃ids nbs,(∀i∈ids,i∈args.flatMap Ba)/\H1=bump H ids++nbs/\∀H',H'.length=H.length->Bi (args.flatMap Ba) H H' -> Ij hs args H' = some (v,bump H' ids++nbs):=by
 unfold Ij at h
 unfold pack at h
 rw [hfb] at h
 cases hp:EU hs.fa H args with
 | none=>simp [hp] at h
 | some r=>
  obtain⟨as,Ha⟩:=r
  simp only [hp] at h
  cases hk:GK 1000 [] Ha (List.range 0++CJ as) [] with
  | none=>rw [hk] at h;cases h
  | some q=>
   obtain⟨H2,ids0⟩:=q
   obtain⟨hr,rfl,rfl⟩:=ZcP hk
   simp only [List.range_zero,List.nil_append] at hr
   obtain⟨ids,a1,rfl,a3⟩:=ZdD hp hr
   simp only [hk] at h
   cases hrun:hs.run (Eh (([]:List Nat).idxOf ·) as) (FW (bump H ids) []) with
   | none=>rw [hrun] at h;cases h
   | some rr=>
    obtain⟨r,H3⟩:=rr
    simp only [hrun,List.length_nil,Nat.zero_le,if_true,Option.some.injEq,Prod.mk.injEq,bump_length] at h
    obtain⟨rfl,rfl⟩:=h
    refine⟨ids,H3.map (EF (Hw [] H.length)),a1,by simp only [KT,Iq,bump_length],fun H' hl hs' =>?_⟩
    unfold Ij pack
    rw [hfb,a3 H' hs']
    simp only [List.range_zero,List.nil_append,hr,GK]
    have hsub:FW (bump H' ids) []=FW (bump H ids) []:=rfl
    simp only [hsub,hrun,List.length_nil,Nat.zero_le,if_true,bump_length,hl,KT,Iq]
theorem Zcn (n:Nat):YG E (Cm E n):=by
 intro f hf args H v H1 h
 cases n with
 | zero=>cases h
 | succ n=>
  have hf0:=hf
  unfold O1 at hf
  simp only [Bool.and_eq_true,Option.isNone_iff_eq_none,Bool.not_eq_true'] at hf
  obtain⟨⟨⟨h0,h1⟩,h2⟩,h3⟩:=hf
  have hrw:=ZdV hf0
  cases hh:E.hm f [] with
  | none=>rw [hh] at h3;cases h3
  | some hs=>
   rw [hh] at h3
   have hfb:hs.fb=[]:=by simpa using h3
   have he:∀H,Cm E (n+1) f args H=Ij hs args H:=fun H=>by
    unfold Cm
    simp_all
   rw [he] at h
   obtain⟨ids,nbs,a1,a2,a3⟩:=Zcc hfb h
   grind
theorem Zgg {H:Heap} {x:V} {n:Nat} {b0 b:Box} (h0:H[n]? = some b0) (hr0:b0.row=false) (hr:b.row=false):Ee (H.set n b) x=Ee H x:=by
 have hn:=(List.getElem?_eq_some_iff.1 h0).1
 cases x with
 | Az id off len tot=>
  simp only [Ee,CB]
  by_cases he:n=id
  ·subst he
   rw [List.getElem?_set_self hn,h0]
   simp only []
   grind
  ·rw [List.getElem?_set_ne he]
 | fn f a c=>cases a<;>cases c<;>rfl
 | FD t v=>cases v<;>rfl
 | _=>rfl
theorem ZcE {H:Heap} {x y:V} {n:Nat} {b0:Box} (h0:H[n]? = some b0) (hr0:b0.row=false) (h:Ee H x=some y):n∉Dn x:=by
 cases x with
 | Az id off len tot=>
  simp only [Ee,CB] at h
  simp only [Dn,List.mem_singleton]
  intro he
  subst he
  rw [h0] at h
  grind
 | _=>simp [Dn]
theorem Z2G {ids:List Nat} {H:Heap} {n:Nat} {b:Box} (h:n∉ids):bump (H.set n b) ids=(bump H ids).set n b:=by
 apply List.ext_getElem?
 intro i
 rw [Hl,List.getElem?_set,List.getElem?_set,Hl,bump_length]
 grind
theorem bump_at {ids:List Nat} {H:Heap} {n:Nat} (h:n∉ids):(bump H ids)[n]? = H[n]?:=by
 rw [Hl]
 grind
theorem Z22 {f:Fk} {H H1:Heap} {x y:V} {n:Nat} {b0 b:Box} (h0:H[n]? = some b0) (hr0:b0.row=false) (hr:b.row=false) (h:EW f H x=some (y,H1)) :
  H1[n]? = some b0/\EW f (H.set n b) x=some (y,H1.set n b):=by
 have hn:=(List.getElem?_eq_some_iff.1 h0).1
 cases f with
 | s e sz=>
  simp only [EW] at h ⊢
  rw [Zgg h0 hr0 hr]
  cases hf:Ee H x with
  | none=>simp [hf] at h
  | some z=>
   have hni:=ZcE h0 hr0 hf
   simp only [hf,Option.map_some,Option.some.injEq,Prod.mk.injEq] at h ⊢
   obtain⟨rfl,rfl⟩:=h
   exact⟨by rw [bump_at hni,h0],rfl,Z2G hni⟩
 | own e sz=>
  simp only [EW] at h ⊢
  unfold Rt at *
  split at h
  ·simp only [Option.some.injEq,Prod.mk.injEq] at h ⊢
   obtain⟨rfl,rfl⟩:=h
   refine⟨by rw [List.getElem?_append_left hn,h0],by rw [List.length_set],?_⟩
   rw [List.set_append_left _ _ hn]
  ·simp only [Option.some.injEq,Prod.mk.injEq] at h ⊢
   obtain⟨rfl,rfl⟩:=h
   refine⟨by rw [List.getElem?_append_left hn,h0],by rw [List.length_set],?_⟩
   rw [List.set_append_left _ _ hn]
  ·split at h
   ·rename_i hz
    simp only [Option.some.injEq,Prod.mk.injEq] at h ⊢
    obtain⟨rfl,rfl⟩:=h
    exact⟨h0,by rw [if_pos hz]⟩
   ·cases h
  ·cases h
 | keep=>simp only [EW,Option.some.injEq,Prod.mk.injEq] at h ⊢;obtain⟨rfl,rfl⟩:=h;exact⟨h0,rfl,rfl⟩
 | drop=>simp only [EW,Option.some.injEq,Prod.mk.injEq] at h ⊢;obtain⟨rfl,rfl⟩:=h;exact⟨h0,rfl,rfl⟩
theorem ZeY {n:Nat} {b0 b:Box} (hr0:b0.row=false) (hr:b.row=false):∀{fl:List Fk} {H H1:Heap} {xs ys:List V},H[n]? = some b0->ER fl H xs=some (ys,H1) ->
  H1[n]? = some b0/\ER fl (H.set n b) xs=some (ys,H1.set n b):=by
 intro fl
 induction fl with
 | nil=>
  intro H H1 xs ys h0 h
  cases xs with
  | nil=>simp only [ER,Option.some.injEq,Prod.mk.injEq] at h ⊢;obtain⟨rfl,rfl⟩:=h;exact⟨h0,rfl,rfl⟩
  | cons=>simp [ER] at h
 | cons f fl ih=>
  intro H H1 xs ys h0 h
  cases xs with
  | nil=>simp [ER] at h
  | cons x xs=>
   simp only [ER] at h ⊢
   cases h1:EW f H x with
   | none=>simp [h1] at h
   | some r=>
    obtain⟨y,Ha⟩:=r
    obtain⟨a1,a2⟩:=Z22 h0 hr0 hr h1
    simp only [h1] at h
    rw [a2]
    cases h2:ER fl Ha xs with
    | none=>simp [h2] at h
    | some q=>
     obtain⟨zs,Hb⟩:=q
     obtain⟨b1,b2⟩:=ih a1 h2
     simp only [h2,Option.some.injEq,Prod.mk.injEq] at h
     obtain⟨rfl,rfl⟩:=h
     simp only [b2]
     exact⟨b1,trivial⟩
theorem Zex {fl:List Fk} {H H1:Heap} {x y:V} {n:Nat} {b0 b:Box} (h0:H[n]? = some b0) (hr0:b0.row=false) (hr:b.row=false) (h:Gg fl H x=some (y,H1)) :
  H1[n]? = some b0/\Gg fl (H.set n b) x=some (y,H1.set n b):=by
 unfold Gg at *
 split at h
 ·rename_i cs
  cases h1:ER fl H cs with
  | none=>simp [h1] at h
  | some r=>
   obtain⟨ys,Ha⟩:=r
   obtain⟨a1,a2⟩:=ZeY hr0 hr h0 h1
   simp only [h1,Option.map_some,Option.some.injEq,Prod.mk.injEq] at h
   obtain⟨rfl,rfl⟩:=h
   exact⟨a1,by simp only [a2,Option.map_some]⟩
 ·split at h
  ·obtain⟨a1,a2⟩:=Z22 h0 hr0 hr h
   exact⟨a1,a2⟩
  ·cases h
theorem Zfb {n:Nat} {b0 b:Box} (hr0:b0.row=false) (hr:b.row=false):∀{fa:List (List Fk)} {H H1:Heap} {xs ys:List V},H[n]? = some b0->EU fa H xs=some (ys,H1) ->
  H1[n]? = some b0/\EU fa (H.set n b) xs=some (ys,H1.set n b):=by
 intro fl
 induction fl with
 | nil=>
  intro H H1 xs ys h0 h
  cases xs with
  | nil=>simp only [EU,Option.some.injEq,Prod.mk.injEq] at h ⊢;obtain⟨rfl,rfl⟩:=h;exact⟨h0,rfl,rfl⟩
  | cons=>simp [EU] at h
 | cons f fl ih=>
  intro H H1 xs ys h0 h
  cases xs with
  | nil=>simp [EU] at h
  | cons x xs=>
   simp only [EU] at h ⊢
   cases h1:Gg f H x with
   | none=>simp [h1] at h
   | some r=>
    obtain⟨y,Ha⟩:=r
    obtain⟨a1,a2⟩:=Zex h0 hr0 hr h1
    simp only [h1] at h
    rw [a2]
    cases h2:EU fl Ha xs with
    | none=>simp [h2] at h
    | some q=>
     obtain⟨zs,Hb⟩:=q
     obtain⟨b1,b2⟩:=ih a1 h2
     simp only [h2,Option.some.injEq,Prod.mk.injEq] at h
     obtain⟨rfl,rfl⟩:=h
     simp only [b2]
     exact⟨b1,trivial⟩
theorem Zf8 {n:Nat} {b0 b:Box} (hr0:b0.row=false) (hr:b.row=false):∀{k:Nat} {fb:List Bf} {H H2:Heap} {todo seen ids:List Nat},fb.all Bf.isRow=true->n∉seen->H[n]? = some b0->GK k fb H todo seen=some (H2,ids) ->
  H2[n]? = some b0/\n∉ids/\GK k fb (H.set n b) todo seen=some (H2.set n b,ids):=by
 intro k
 induction k with
 | zero=>intro fb H H2 todo seen ids _ _ _ h;cases h
 | succ k ih=>
  intro fb H H2 todo seen ids hfb hs h0 h
  have hn:=(List.getElem?_eq_some_iff.1 h0).1
  cases todo with
  | nil=>
   simp only [GK,Option.some.injEq,Prod.mk.injEq] at h ⊢
   obtain⟨rfl,rfl⟩:=h
   exact⟨h0,hs,rfl,rfl⟩
  | cons id todo=>
   unfold GK at h ⊢
   by_cases hc:seen.contains id=true
   ·rw [if_pos hc] at h ⊢
    exact ih hfb hs h0 h
   ·rw [if_neg hc] at h ⊢
    cases hb:H[id]? with
    | none=>simp [hb] at h
    | some bx=>
     cases fb with
     | nil=>simp [hb] at h
     | cons f fb=>
      simp only [List.all_cons,Bool.and_eq_true] at hfb
      cases f with
      | var fl=>simp [Bf.isRow] at hfb
      | row fresh=>
       simp only [hb] at h
       split at h
       ·rename_i hl
        have hne:n≠id:=fun e=>by
         subst e
         rw [h0] at hb
         cases hb
         simp [hr0] at hl
        rw [List.getElem?_set_ne hne,hb]
        simp only [hl,if_true]
        have hs' : n∉seen++[id]:=by simp [hs,hne]
        cases fresh with
        | true=>exact ih hfb.2 hs' h0 h
        | false=>
         have hni:n∉[id]:=by simp [hne]
         simp only [Bool.false_eq_true,if_false] at h ⊢
         rw [Z2G hni]
         exact ih hfb.2 hs' (by rw [bump_at hni,h0]) h
       ·cases h
theorem Zgc {H:Heap} {ids:List Nat} {n:Nat} {b:Box} (h:n∉ids):FW (H.set n b) ids=FW H ids:=by
 unfold FW
 apply List.map_congr_left
 intro i hi
 rw [List.getElem?_set_ne (fun e=>h (by rw [e];exact hi))]
theorem ZfT {n:Nat} {b:Box}:∀{ids:List Nat} {H bs:Heap},n<H.length->n∉ids->(Iq H ids bs)[n]? = H[n]? /\ Iq (H.set n b) ids bs=(Iq H ids bs).set n b:=by
 intro ids
 induction ids with
 | nil=>intro H bs hn _;simp only [Iq];exact⟨List.getElem?_append_left hn,(List.set_append_left _ _ hn).symm⟩
 | cons i ids ih=>
  intro H bs hn hi
  simp only [List.mem_cons,not_or] at hi
  cases bs with
  | nil=>exact⟨rfl,rfl⟩
  | cons c bs=>
   simp only [Iq]
   rw [List.set_comm _ _ hi.1]
   obtain⟨a1,a2⟩:=ih (H:=H.set i c) (bs:=bs) (by rw [List.length_set];exact hn) hi.2
   exact⟨by rw [a1,List.getElem?_set_ne (Ne.symm hi.1)],a2⟩
theorem Zfe {hs:Ph} (hfb:hs.fb.all Bf.isRow=true) {args:List V} {H H1:Heap} {v:V} {n:Nat} {b0 b:Box} (h0:H[n]? = some b0) (hr0:b0.row=false) (hr:b.row=false) (h:Ij hs args H=some (v,H1)) :
  H1[n]? = some b0/\Ij hs args (H.set n b)=some (v,H1.set n b):=by
 unfold Ij pack at *
 cases hp:EU hs.fa H args with
 | none=>simp [hp] at h
 | some r=>
  obtain⟨as,Ha⟩:=r
  obtain⟨a1,a2⟩:=Zfb hr0 hr h0 hp
  simp only [hp] at h
  rw [a2]
  simp only
  cases hk:GK 1000 hs.fb Ha (List.range 0++CJ as) [] with
  | none=>rw [hk] at h;cases h
  | some q=>
   obtain⟨H2,ids⟩:=q
   obtain⟨c1,c2,c3⟩:=Zf8 hr0 hr hfb (by simp) a1 hk
   have hl:=(List.getElem?_eq_some_iff.1 c1).1
   rw [hk] at h
   simp only at h
   rw [c3]
   simp only [Zgc c2]
   cases hrun:hs.run (Eh (ids.idxOf ·) as) (FW H2 ids) with
   | none=>rw [hrun] at h;cases h
   | some rr=>
    obtain⟨r,H3⟩:=rr
    simp only [hrun] at h
    split at h
    ·rename_i hlen
     simp only [Option.some.injEq,Prod.mk.injEq] at h
     obtain⟨rfl,rfl⟩:=h
     simp only [if_pos hlen,List.length_set,KT]
     obtain⟨d1,d2⟩:=ZfT (b:=b) (ids:=ids) (H:=H2) (bs:=H3.map (EF (Hw ids H2.length))) hl c2
     exact⟨by rw [d1,c1],by rw [d2]⟩
    ·cases h
theorem ZeH (n:Nat):Y2 E (Cm E n):=by
 intro f hv hfr hf args H v H1 i b0 b h h0 hr0 hr
 cases n with
 | zero=>cases h
 | succ n=>
  have hf0:=hf
  unfold MJ at hf
  simp only [Bool.and_eq_true,Option.isNone_iff_eq_none,Bool.not_eq_true'] at hf
  obtain⟨⟨⟨h0',h1⟩,h2⟩,h3⟩:=hf
  cases hh:E.hm f [] with
  | none=>rw [hh] at h3;cases h3
  | some hs=>
   rw [hh] at h3
   have he:∀H,Cm E (n+1) f args H=Ij hs args H:=fun H=>by
    unfold Cm
    simp_all
   rw [he] at h ⊢
   exact Zfe h3 h0 hr0 hr h
theorem Ny (n:Nat):La E (Cm E n):=⟨ZcA n,Zcn n,ZeH n⟩
def VQ (w:World) (b c:Nat):Prop:=∃u,w.cell? ⟨b,c,none⟩=some u
theorem Z1r {σ σ' : Sg} {w w' : World} {b:Bool} {e:Nat} {u:Value} (h:AL σ w [.sl b e []] [u]):AL σ' w' [.sl b e []] [u]:=by
 cases h with
 | Dj _=>exact .Dj .nil
 | EG a _=>exact .EG a .nil
 | sl b o c e h0 h1 h2 h3 h4 h5 h6 _=>
  cases h0.EN
  exact .sl b o c e .nil (fun x hx=>absurd hx (by simp)) (fun x hx=>absurd hx (by simp)) (fun x hx=>absurd hx (by simp [flat])) h4 h5 (fun j x hx=>by simp [flat] at hx) .nil
theorem ZdW {σ σ' : Sg} {w w' : World} {cs:List V} {ws:List Value} (h:AL σ w cs ws):AL σ' w' (cs.map Pm) ws:=by
 induction cs generalizing ws with
 | nil=>cases h.EN;exact .nil
 | cons c cs ih=>
  obtain⟨v,vs,rfl,h1,h2⟩:=h.Cf
  simp only [List.map_cons]
  refine AL.ED.2 ⟨?_,ih h2⟩
  unfold Pm
  split
  ·cases h1 with
   | lit hl _=>exact .lit hl .nil
  ·exact Z1r h1
  ·exact .und _ .nil
theorem Z1c (cs:List V):BJ (cs.map Pm)=true:=by
 induction cs with
 | nil=>rfl
 | cons c cs ih=>
  simp only [List.map_cons,BJ,Bool.and_eq_true]
  exact⟨by unfold Pm;split<;>simp [BQ,BJ],ih⟩
theorem ZcJ {B:Nat} {w0:Start} {σ:Sg} {H:Heap} {w:World} (h:Inv B w0 σ H w) {x y:V} {v:Value} (hr:AL σ w [x] [v]) (hs:MG H x=some y):AL (bare (VQ w)) w [y] [v]/\BQ y=true:=by
 unfold MG at hs
 split at hs
 ·rename_i id i off tot
  split at hs
  ·rename_i hz
   obtain⟨rfl,rfl⟩:=hz
   split at hs
   ·rename_i b hb
    obtain⟨b1,b2,b3⟩:=Qc hb
    split at hs
    ·rename_i cs hrow hxs
     simp only [Option.some.injEq] at hs
     subst hs
     obtain⟨L,us,m⟩:=h.meet b1 b2
     cases hr with
     | ptr g k1 k2 k3 k4 k5=>
      rename_i L'
      have hL:L' = L:=by
       have:=m.box
       rw [k1] at this
       cases this
       rfl
      subst hL
      obtain⟨n,c,hv⟩:=k3 (m.tot.trans b3)
      have hrep:=m.CU
      rw [hxs] at hrep
      have hus:∃ws:List Value,us=[.agg ws.toArray]/\AL σ w cs ws/\∀u∈ws,u.oneCell' = true:=by
       cases hrep with
       | agg q1 q2 q3=>cases q3;exact⟨_,rfl,q1,q2⟩
      obtain⟨ws,hus,hcs,hone⟩:=hus
      refine⟨?_,by simp [BQ,BJ,Z1c]⟩
      have key:AL (bare (VQ w)) w [.BK b.AZ [.agg (cs.map Pm)] 0 0] [.pointer (some ⟨g,0+0*b.AZ+0,none⟩)]:=by
       refine .BK (us:=us) g 0 b.AZ 0 0 ?_ ?_ (fun u hu=>by rw [m.AZ];exact m.sizes u hu) m.ones ?_ .nil
       ·rw [hus];exact .agg (ZdW hcs) hone .nil
       ·intro x hx
        simp only [List.mem_singleton] at hx
        subst hx
        simp [Dp,okV,BQ,Z1c]
       ·intro j u hu
        have:=m.cell (g:=g) (by rw [hv];rfl) j u hu
        rw [Nat.zero_add]
        exact⟨⟨u,this⟩,this⟩
      simp_all
    ·rename_i z hrow hxs
     simp only [Option.some.injEq] at hs
     subst hs
     obtain⟨L,us,m⟩:=h.meet b1 b2
     cases hr with
     | ptr g k1 k2 k3 k4 k5=>
      rename_i L'
      have hL:L' = L:=by
       have:=m.box
       rw [k1] at this
       cases this
       rfl
      subst hL
      obtain⟨n,c,hv⟩:=k3 (m.tot.trans b3)
      have hrep:=m.CU
      rw [hxs] at hrep
      have hus:us=[z]/\leaf z=true:=by
       cases hrep with
       | lit q1 q2=>cases q2;exact⟨rfl,q1⟩
      obtain⟨hus,hz⟩:=hus
      refine⟨?_,by simp [BQ,BJ]⟩
      have key:AL (bare (VQ w)) w [.BK b.AZ [.lit z] 0 0] [.pointer (some ⟨g,0+0*b.AZ+0,none⟩)]:=by
       refine .BK (us:=us) g 0 b.AZ 0 0 ?_ ?_ (fun u hu=>by rw [m.AZ];exact m.sizes u hu) m.ones ?_ .nil
       ·rw [hus];exact .lit hz .nil
       ·intro x hx
        simp only [List.mem_singleton] at hx
        subst hx
        simp [Dp,okV,BQ]
       ·intro j u hu
        have:=m.cell (g:=g) (by rw [hv];rfl) j u hu
        rw [Nat.zero_add]
        exact⟨⟨u,this⟩,this⟩
      simp_all
    ·cases hs
   ·cases hs
  ·cases hs
 ·have hn:=XL h hr hs
  refine⟨?_,hn⟩
  obtain⟨hI1,hEx1⟩:=h.freeze (CV x)
  have:=Xf h hr hs (CV x) (fun i hi=>hi)
  exact this.bare (fun b c hh=>⟨hI1.cells b c hh,rfl⟩) (DF.refl _) (by simp [BJ,hn])
theorem Za5 {B:Nat} {w0:Start} {σ:Sg} {H:Heap} {w:World} (h:Inv B w0 σ H w):∀{xs ys:List V} {vs:List Value},AL σ w xs vs->JE H xs=some ys->AL (bare (VQ w)) w ys vs/\BJ ys=true:=by
 intro xs
 induction xs with
 | nil=>
  intro ys vs hr hs
  cases hr.EN
  simp only [JE,Option.some.injEq] at hs
  subst hs
  exact⟨.nil,rfl⟩
 | cons x xs ih=>
  intro ys vs hr hs
  obtain⟨v,vs',rfl,h1,h2⟩:=hr.Cf
  simp only [JE] at hs
  split at hs
  ·rename_i y ys' e1 e2
   simp only [Option.some.injEq] at hs
   subst hs
   obtain⟨r1,n1⟩:=ZcJ h h1 e1
   obtain⟨r2,n2⟩:=ih h2 e2
   exact⟨AL.ED.2 ⟨r1,r2⟩,by simp [BJ,n1,n2]⟩
  ·cases hs
theorem ZeA {σ σ' : Sg} {w w' : World} {cs:List V} {ws:List Value} (h:AL σ w cs ws) (hl:cs.all HY=true):AL σ' w' cs ws:=by
 induction cs generalizing ws with
 | nil=>cases h.EN;exact .nil
 | cons c cs ih=>
  obtain⟨v,vs,rfl,h1,h2⟩:=h.Cf
  simp only [List.all_cons,Bool.and_eq_true] at hl
  refine AL.ED.2 ⟨?_,ih h2 hl.2⟩
  cases h1 with
  | lit hl' _=>exact .lit hl' .nil
  | _=>simp [HY] at hl
theorem Z10 {σ σ' : Sg} {w w' : World} {x:V} {u:Value} (h:AL σ w [x] [u]) (hl:Kw x=true):AL σ' w' [x] [u]:=by
 unfold Kw at hl
 split at hl
 ·cases h with
  | lit hl' _=>exact .lit hl' .nil
 ·cases h with
  | agg h1 h2 _=>exact .agg (ZeA h1 hl) h2 .nil
 ·exact Z1r h
 ·cases hl
theorem Zcy {σ σ' : Sg} {w w' : World} {cs:List V} {ws:List Value} (h:AL σ w cs ws) (hl:cs.all Kw=true):AL σ' w' cs ws:=by
 induction cs generalizing ws with
 | nil=>cases h.EN;exact .nil
 | cons c cs ih=>
  obtain⟨v,vs,rfl,h1,h2⟩:=h.Cf
  simp only [List.all_cons,Bool.and_eq_true] at hl
  exact AL.ED.2 ⟨Z10 h1 hl.1,ih h2 hl.2⟩
theorem Zfs {σ σ' : Sg} {w w' : World} {x:V} {u:Value} (h:AL σ w [x] [u]) (hl:OU x=true):AL σ' w' [x] [u]:=by
 unfold OU at hl
 split at hl
 ·cases h with
  | Aw h1 _=>exact .Aw (Zcy h1 hl) .nil
 ·exact Z10 h hl
theorem Zc8 {P:Program} {E:Env} {B:Nat} {w0:Start} {σ:Sg} {H:Heap} {w:World} {f:FuncId} {args as:List V} {r:V} {vs:List Value} (ts:List TypeId) (hp:BJ (Eo E.rows ts as)=true->KU P E f (Eo E.rows ts as) r) (hf:JE H args=some as) (hfl:OU r=true) (hI:Inv B w0 σ H w) (hg:CW E σ w) (hr:AL σ w args vs) :
  Calls P f vs.toArray w fun e w' =>∃u σ',e = .returned u/\Inv B w0 σ' (bump H (args.flatMap CV)) w' /\ Ext σ w σ' w' /\ AL σ' w' [r] [u]:=by
 obtain⟨hI1,hEx1⟩:=hI.freeze (args.flatMap CV)
 obtain⟨r1,n1⟩:=Za5 hI hr hf
 have hr1:=fB E.rows ts r1
 refine(hp (by rw [WC];exact n1) (VQ w) w vs (fun b c h=>h) (hg.bare (fun b c h=>⟨hI.cells b c h,rfl⟩) (DF.refl _)) hr1).mono ?_
 rintro e w' ⟨u,fz',rfl,hb,hmono,hold,hcells,hru,hnr⟩
 obtain⟨hI2,hEx2⟩:=hI1.grown (Below.grownBy hb)
 exact⟨u,_,rfl,hI2,hEx1.trans hEx2,Zfs hru hfl⟩
theorem UM (hE:BP E) (hP:E.P=P) (hF:Ko P E):∀(n:Nat) (B:Nat) (w0:Start),IV P E B w0 (Cm E n):=by
 intro n
 induction n with
 | zero=>intro B w0 f args H x H' σ w vs h;cases h
 | succ n ih=>
  intro B w0 f args H x H' σ w vs h hI hg hr
  unfold Cm at h
  cases hmk:E.maps f with
  | some l=>
   simp only [hmk] at h
   split at h
   ·rename_i x
    split at h
    ·simp only [Option.some.injEq,Prod.mk.injEq] at h
     obtain⟨rfl,rfl⟩:=h
     obtain⟨h1,h2⟩:=hF.maps f l hmk
     exact⟨h1,h2 x H B w0 σ w vs hI hg hr⟩
    ·cases h
   ·cases h
  | none=>
  simp only [hmk] at h
  cases henv:E.env f with
  | some F=>
   simp only [henv] at h
   by_cases hq:args.any P8=true
   ·rw [if_pos hq] at h
    cases ho:E.own f with
    | some e=>simp [ho] at h
    | none=>
     cases hf:JE H args with
     | none=>simp [ho,hf] at h
     | some as=>
      simp only [ho,hf] at h
      cases hFa:F (Eo E.rows (E.par f) as) with
      | none=>simp [hFa] at h
      | some r=>
       simp only [hFa] at h
       split at h
       ·rename_i hfl
        simp only [Option.some.injEq,Prod.mk.injEq] at h
        obtain⟨rfl,rfl⟩:=h
        obtain⟨h1,h2⟩:=hF.env f F henv
        refine⟨h1,Zc8 (E.par f) (fun hn=>?_) hf hfl hI hg hr⟩
        simp_all
       ·cases h
   rw [if_neg hq] at h
   cases hf:EE H args with
   | none=>simp [hf] at h
   | some as=>
    simp only [hf] at h
    cases hFa:F (Eo E.rows (E.par f) as) with
    | none=>
     grind
    | some r=>
     obtain⟨h1,h2⟩:=hF.env f F henv
     have h3:=h2 _ r (by rw [WC];exact TZ hI hr hf) hFa
     cases ho:E.own f with
     | none=>
      simp only [ho,hFa,Option.map_some,Option.some.injEq,Prod.mk.injEq] at h
      obtain⟨rfl,rfl⟩:=h
      rw [ho] at h3
      exact⟨h1,Z1v (E.par f) h3 hf hI hg hr⟩
     | some e=>
      simp only [ho,hFa] at h
      rw [ho] at h3
      split at h
      ·rename_i sz xs hr0
       simp only [Option.some.injEq,Prod.mk.injEq] at h hr0
       obtain⟨rfl,rfl⟩:=h
       exact⟨h1,Z1A (E.par f) (h3 sz xs hr0) hf hI hg hr⟩
      ·cases h
  | none=>
   simp only [henv] at h
   split at h
   ·cases hfn:E.func f with
    | none=>simp [hfn] at h
    | some fn=>
     simp only [hfn] at h
     cases hf:EE H args with
     | none=>simp [hf] at h
     | some as=>
      simp only [hf] at h
      cases hbd:Kt (Cm E n) n E f fn as [] with
      | none=>simp [hbd] at h
      | some rr=>
       obtain⟨r0,H2⟩:=rr
       simp only [hbd] at h
       cases hft:IB H2 r0 with
       | none=>simp [hft] at h
       | some r=>
        simp only [hft,Option.map_some,Option.some.injEq,Prod.mk.injEq] at h
        obtain⟨rfl,rfl⟩:=h
        have hent:JG P f:=by
         obtain⟨hf1,hf2⟩:=hE.func f fn hfn
         rw [hP] at hf1
         refine⟨fn,hf1,?_,hf2⟩
         unfold Kt at hbd
         cases hb:fn.body with
         | none=>simp [hb] at hbd
         | some c=>rfl
        exact⟨hent,Z1v [] (by simpa [Eo] using mJ hE hP ih (Ny n) hfn hbd hft) hf hI hg hr⟩
   ·cases hhm:E.hm f (if MJ E f then [] else Jl args) with
    | some hs=>
     simp only [hhm] at h
     obtain⟨h1,h2⟩:=hF.hm f _ hs hhm
     exact⟨h1,Zfw h2 h hI hg hr⟩
    | none=>
     simp only [hhm] at h
     cases hfn:E.func f with
     | none=>simp [hfn] at h
     | some fn=>
      simp only [hfn] at h
      exact Z3k hE hP (ih B w0) (Ny n) hfn h hI hg hr
theorem ZdZ {n:Nat} {as:List V} {r:V} {H' : Heap} (hE:BP E) (hP:E.P=P) (hF:Ko P E) (hp:E.pure f=true) (hne:E.env f=none) (hmk:E.maps f=none) (hn:EE [] as=some as) (h:Cm E (n+1) f as []=some (r,H')):KU P E f as r:=by
 unfold Cm at h
 simp only [hmk,hne,hp,if_true] at h
 cases hfn:E.func f with
 | none=>simp [hfn] at h
 | some fn=>
  simp only [hfn,hn] at h
  cases hbd:Kt (Cm E n) n E f fn as [] with
  | none=>simp [hbd] at h
  | some rr=>
   obtain⟨r0,H2⟩:=rr
   simp only [hbd] at h
   cases hft:IB H2 r0 with
   | none=>simp [hft] at h
   | some r' =>
    simp only [hft,Option.map_some,Option.some.injEq,Prod.mk.injEq] at h
    obtain⟨rfl,_⟩:=h
    exact mJ hE hP (UM hE hP hF n) (Ny n) hfn hbd hft
end
end Go.Proofs.YtlabamnhpgoekaaGreatDoor.Le
namespace Go.Proofs.YtlabamnhpgoekaaGreatDoor.Le
inductive SV (Ty:Nat->Type) where
 | lit (v:Value)
 | si (k:IntKind) (a:Int)
 | sb (b:Bool)
 | ss (s:ByteArray)
 | agg (cs:List (SV Ty))
 | Aw (vs:List (SV Ty))
 | nil (e:Nat)
 | sl (t:Nat) (xs:List (Ty t))
 | BR (t:Nat) (xs:List (Ty t))
 | all (id n:Nat)
 | Az (id off len tot:Nat)
 | ptr (id i off tot:Nat)
 | BK (t:Nat) (xs:List (Ty t)) (i off:Nat)
 | fn (f:FuncId) (first caps:List (SV Ty))
 | raw (v:V)
 | MO (kvs:List (SV Ty))
 | QM (d:Nat) (cs:List V) (off:Nat)
 | no
 | und
instance (Ty:Nat->Type):Inhabited (SV Ty):=⟨.und⟩
structure CE where
 Ty:Nat->Type
 AZ:Nat->Nat
 enc:(t:Nat)->Ty t->V
 encS:(t:Nat)->Ty t->SV Ty
 FV:(t:Nat)->SV Ty->Option (Ty t)
 keys:List Nat
section
variable (U:CE)
mutual
def AO:SV U.Ty->V
 | .lit v=>.lit v
 | .si k a=>.lit (.int k a)
 | .sb b=>.lit (.bool b)
 | .ss s=>.lit (.string s)
 | .agg cs=>.agg (A7 cs)
 | .Aw cs=>.Aw (A7 cs)
 | .nil e=>.sl true e []
 | .sl t xs=>.sl false (U.AZ t) (xs.map (U.enc t))
 | .BR t xs=>.BR false (U.AZ t) (xs.map (U.enc t))
 | .all id n=>.Az id 0 n n
 | .Az id off len tot=>.Az id off len tot
 | .ptr id i off tot=>.ptr id i off tot
 | .BK t xs i off=>.BK (U.AZ t) (xs.map (U.enc t)) i off
 | .fn f a b=>.fn f (A7 a) (A7 b)
 | .raw v=>v
 | .MO cs=>.FI (A7 cs)
 | .QM d cs off=>.BK d [.agg cs] 0 off
 | .no=>.no
 | .und=>.und
def A7:List (SV U.Ty)->List V
 | []=>[]
 | x::xs=>AO x::A7 xs
end
inductive JS (Ty:Nat->Type) where
 | var (elem:TypeId) (AZ:Nat) (x:SV Ty)
 | row (t:Nat) (xs:List (Ty t)) (fl:Option Nat)
 | dead
 | gone
 | fvar (elem:TypeId) (AZ:Nat) (x:SV Ty)
def JS.floor {Ty:Nat->Type} (fl:Option Nat):Nat:=fl.getD 0
def BM:JS U.Ty->Box
 | .var e n x=>BH false false e n [AO U x]
 | .row t xs fl=>{ live:=true,row:=true,DZ:=false,elem:=t,AZ:=U.AZ t,xs:=xs.map (U.enc t),floor:=fl.getD 0 }
 | .dead=>NQ
 | .gone=>Qz
 | .fvar e n x=>{ BH false false e n [AO U x] with floor:=1 }
abbrev Ad:=List (JS U.Ty)
def Aj (H:Ad U):Heap:=H.map (BM U)
structure CP where
 s:List (SV U.Ty)
 H:Ad U
def BN (st:CP U):St:=⟨A7 U st.s,Aj U st.H⟩
inductive Tr (L:Type) where
 | leaf (l:L)
 | br (c:Bool) (a b:Tr L)
 | bind (t:Nat) (o:Option (U.Ty t)) (k:U.Ty t->Tr L)
 | chk (c:Bool) (a:Tr L)
 | fail
variable {U}
def Tr.andThen {L M:Type}:Tr U L->(L->Tr U M)->Tr U M
 | .leaf l,f=>f l
 | .br c a b,f=>.br c (a.andThen f) (b.andThen f)
 | .bind t o k,f=>.bind t o fun x=>(k x).andThen f
 | .chk c a,f=>.chk c (a.andThen f)
 | .fail,_=>.fail
def Tr.map {L M:Type} (g:L->M):Tr U L->Tr U M
 | .leaf l=>.leaf (g l)
 | .br c a b=>.br c (a.map g) (b.map g)
 | .bind t o k=>.bind t o fun x=>(k x).map g
 | .chk c a=>.chk c (a.map g)
 | .fail=>.fail
def Tr.den {L R:Type} (J:L->Option R):Tr U L->Option R
 | .leaf l=>J l
 | .br c a b=>cond c (a.den J) (b.den J)
 | .bind t o k=>o.bind fun x=>(k x).den J
 | .chk c a=>cond c (a.den J) none
 | .fail=>none
def Tr.AP {L:Type}:Tr U L->L->Prop
 | .leaf l,x=>l=x
 | .br c a b,x=>(c=true/\a.AP x)\/(c=false/\b.AP x)
 | .bind t o k,x=>∃a,o=some a/\(k a).AP x
 | .chk c a,x=>c=true/\a.AP x
 | .fail,_=>False
def Tr.opt {L:Type}:Option L->Tr U L
 | some l=>.leaf l
 | none=>.fail
def Tr.when {L:Type} (p:Prop) [Decidable p] (a:Tr U L):Tr U L:=if p then a else .fail
variable (U)
def O7:V->SV U.Ty
 | .lit v=>.lit v
 | .sl true e []=>.nil e
 | .no=>.no
 | .und=>.und
 | v=>.raw v
def I7:V->SV U.Ty
 | .agg cs=>.agg (cs.map (O7 U))
 | v=>O7 U v
variable {U}
def cellsS:SV U.Ty->List (SV U.Ty)
 | .agg cs=>cs
 | v=>[v]
def okS:SV U.Ty->Bool
 | .und | .no | .Aw _ | .MO _ | .QM ..=>false
 | .raw (.agg _)=>false
 | .raw v=>okV v
 | _=>true
def SH:SV U.Ty->Option Value
 | .lit v=>some v
 | .si k a=>some (.int k a)
 | .sb b=>some (.bool b)
 | .ss s=>some (.string s)
 | _=>none
def asInt:SV U.Ty->Option (IntKind×Int)
 | .lit (.int k a)=>some (k,a)
 | .si k a=>some (k,a)
 | _=>none
def IY:SV U.Ty->Option ByteArray
 | .lit (.string s)=>some s
 | .ss s=>some s
 | _=>none
def asBool:SV U.Ty->Option Bool
 | .lit (.bool b)=>some b
 | .sb b=>some b
 | _=>none
def Bd (E:Env) (s:List (SV U.Ty)):Operand->SV U.Ty
 | .tmp t=>s.getD t .und
 | .const v=>I7 U (NI v)
 | .func f=>.fn f [] []
 | .global g=>match E.Ci g with|some r=>.raw (.BK r.length [.agg r] 0 0)|none=>.und
def Oa (s:List (SV U.Ty)) (d:Option Tmp) (v:SV U.Ty):List (SV U.Ty):=match d with|some t=>s.set t v|none=>s
def Lc (H:Ad U) (k:Nat) (b:JS U.Ty):Ad U:=if k<H.length then H.set k b else H++[b]
def rowAt {L:Type} (H:Ad U) (id tot:Nat) (k:(t:Nat)->List (U.Ty t)->Option Nat->Tr U L):Tr U L:=
 match H[id]? with
 | some (.row t xs fl)=>.chk (xs.length==tot) (k t xs fl)
 | _=>.fail
def Ku (H:Ad U):SV U.Ty->Tr U (SV U.Ty)
 | .lit v=>.leaf (.lit v)
 | .si k a=>.leaf (.si k a)
 | .sb b=>.leaf (.sb b)
 | .ss s=>.leaf (.ss s)
 | .nil e=>.leaf (.nil e)
 | .sl t xs=>.leaf (.sl t xs)
 | .BR t xs=>.leaf (.sl t xs)
 | .all id n=>rowAt H id n fun t xs _=>.leaf (.sl t xs)
 | .Az id off len tot=>rowAt H id tot fun t xs _=>.chk (decide (off+len<=tot)) (.leaf (.sl t ((xs.drop off).take len)))
 | .fn f [] []=>.leaf (.fn f [] [])
 | _=>.fail
def Pn (H:Ad U):List (SV U.Ty)->Tr U (List (SV U.Ty))
 | []=>.leaf []
 | v::vs=>(Ku H v).andThen fun w=>(Pn H vs).andThen fun ws=>.leaf (w::ws)
def O9 (H:Ad U):SV U.Ty->Tr U (SV U.Ty)
 | .agg cs=>(Pn H cs).andThen fun ws=>.leaf (.agg ws)
 | v=>Ku H v
def NK (H:Ad U):List (SV U.Ty)->Tr U (List (SV U.Ty))
 | []=>.leaf []
 | v::vs=>(O9 H v).andThen fun w=>(NK H vs).andThen fun ws=>.leaf (w::ws)
def Lt:SV U.Ty->List Nat
 | .Az id _ _ _=>[id]
 | .all id _=>[id]
 | .raw v=>Dn v
 | _=>[]
def J8:SV U.Ty->List Nat
 | .agg cs=>cs.flatMap Lt
 | .raw v=>CV v
 | v=>Lt v
def Xj:JS U.Ty->JS U.Ty
 | .row t xs _=>.row t xs (some xs.length)
 | b=>b
def Nh (H:Ad U):List Nat->Ad U
 | []=>H
 | i::is=>Nh (H.modify i Xj) is
def OT (cs:List (SV U.Ty)) (off n:Nat) (isAgg:Bool):Option (SV U.Ty):=
 if isAgg then (if off+n<=cs.length then some (.agg ((cs.drop off).take n)) else none) else cs[off]?
def OO (e:Nat):List (SV U.Ty)->Option (List (U.Ty e))
 | []=>some []
 | v::vs=>match okS v,U.FV e v,OO e vs with|true,some a,some as=>some (a::as)|_,_,_=>none
def loadT (E:Env) (H:Ad U) (t:TypeId) (a:SV U.Ty):Tr U (SV U.Ty):=
 match E.ti t with
 | none=>.fail
 | some i=>
  match a with
  | .BK et xs j off=>.bind et xs[j]? fun x=>.opt (OT (cellsS (U.encS et x)) off i.size i.isAgg)
  | .ptr id j off tot=>match H[id]? with
   | some (.var _ _ x)=>.when (j=0/\tot=1/\okS x=true) (.opt (OT (cellsS x) off i.size i.isAgg))
   | some (.row et xs _)=>.chk (xs.length==tot) (.bind et xs[j]? fun x=>.opt (OT (cellsS (U.encS et x)) off i.size i.isAgg))
   | _=>.fail
  | .raw (.BK _ [.lit z] 0 0)=>.opt (OT [.lit z] 0 i.size i.isAgg)
  | .raw (.BK _ [.agg cs] 0 off)=>.opt ((partOf cs off i.size i.isAgg).map (I7 U))
  | .QM _ cs off=>match OO t (cs.map (O7 U)) with
   | some ys=>.when (i.size=1/\i.isAgg=false/\cs.all HY=true) (.bind t ys[off]? fun x=>.leaf (U.encS t x))
   | none=>.fail
  | _=>.fail
def Xm (x:SV U.Ty) (off:Nat) (cs:List (SV U.Ty)):Option (SV U.Ty):=
 match x with
 | .agg ds=>if off+cs.length<=ds.length then some (.agg (ds.take off++cs++ds.drop (off+cs.length))) else none
 | .raw _=>none
 | _=>match off,cs with|0,[c]=>some c|_,_=>none
def storeT (E:Env) (H:Ad U) (t:TypeId) (a v:SV U.Ty):Tr U (Ad U):=
 match E.ti t with
 | none=>.fail
 | some i=>
  match a with
  | .ptr id j off tot=>match H[id]? with
   | some (.var e n x)=>.when ((j=0/\tot=1)/\(cellsS v).length=i.size/\okS v=true/\okS x=true)
     (match Xm x off (cellsS v) with
      | some x' =>.when (okS x' = true) (.leaf (H.set id (.var e n x')))
      | none=>.fail)
   | some (.row et xs fl)=>.when ((cellsS v).length=i.size/\okS v=true/\(J8 v).contains id=false)
     (.chk (xs.length==tot&&decide (fl.getD 0<=j)) (.bind et xs[j]? fun x=>(O9 H v).andThen fun v' =>
      match Xm (U.encS et x) off (cellsS v') with
      | some x' =>match U.FV et x' with
       | some y=>.when (okS v' = true/\okS x' = true) (.leaf ((Nh H (J8 v)).set id (.row et (xs.set j y) fl)))
       | none=>.fail
      | none=>.fail))
   | _=>.fail
  | _=>.fail
end
section
variable {U:CE}
def tZ (op:BinOp) (k:IntKind) (a b:Int) (lit:Bool):Tr U (SV U.Ty):=
 match op with
 | .add=>.leaf (.si k (k.wrap (a+b)))
 | .sub=>.leaf (.si k (k.wrap (a - b)))
 | .mul=>.leaf (.si k (k.wrap (a*b)))
 | .quo=>if lit then (if b=0 then .fail else .leaf (.si k (k.wrap (a.tdiv b)))) else .chk (b != 0) (.leaf (.si k (k.wrap (a.tdiv b))))
 | .rem=>if lit then (if b=0 then .fail else .leaf (.si k (a.tmod b))) else .chk (b != 0) (.leaf (.si k (a.tmod b)))
 | .and | .or | .xor | .andNot=>.leaf (.si k (bits op k a b))
 | .eql=>.leaf (.sb (a==b))
 | .neq=>.leaf (.sb (a != b))
 | .lss=>.leaf (.sb (decide (a<b)))
 | .leq=>.leaf (.sb (decide (a<=b)))
 | .gtr=>.leaf (.sb (decide (a>b)))
 | .geq=>.leaf (.sb (decide (a>=b)))
 | _=>.fail
def Z48 (op:BinOp) (k:IntKind) (a b:Int):Option Int:=
 match op with
 | .shl=>some (k.wrap (a*2 ^ min b.toNat k.bits))
 | .shr=>some (a.fdiv (2 ^ min b.toNat k.bits))
 | _=>none
def Xx (op:BinOp) (k:IntKind) (a b:Int) (lit:Bool):Tr U (SV U.Ty):=
 match Z48 op k a b with
 | none=>.fail
 | some r=>if lit then (if b<0 then .fail else .leaf (.si k r)) else .chk (decide (0<=b)) (.leaf (.si k r))
def tX (op:BinOp) (x y:ByteArray):Tr U (SV U.Ty):=
 match op with
 | .add=>.chk (decide (x.size+y.size<=maxLen)) (.leaf (.ss (x++y)))
 | .eql=>.leaf (.sb (x.toList==y.toList))
 | .neq=>.leaf (.sb !(x.toList==y.toList))
 | .lss=>.leaf (.sb (Op.bytesLess x.toList y.toList))
 | .leq=>.leaf (.sb (Op.bytesLess x.toList y.toList||x.toList==y.toList))
 | .gtr=>.leaf (.sb !(Op.bytesLess x.toList y.toList||x.toList==y.toList))
 | .geq=>.leaf (.sb !(Op.bytesLess x.toList y.toList))
 | _=>.fail
def KN:List FK->List (SV U.Ty)->List (SV U.Ty)->Option Bool
 | [],[],[]=>some true
 | .b::ks,x::xs,y::ys=>match asBool x,asBool y,KN ks xs ys with|some a,some b,some r=>some (a==b&&r)|_,_,_=>none
 | .i k::ks,x::xs,y::ys=>match asInt x,asInt y,KN ks xs ys with
  | some (k1,a),some (k2,b),some r=>if k1=k/\k2=k then some (a==b&&r) else none
  | _,_,_=>none
 | .s::ks,x::xs,y::ys=>match IY x,IY y,KN ks xs ys with|some a,some b,some r=>some (a==b&&r)|_,_,_=>none
 | _,_,_=>none
def isLit:SV U.Ty->Bool | .lit _=>true|_=>false
def sG:SV U.Ty->SV U.Ty | .si k a=>.lit (.int k a) | .sb b=>.lit (.bool b)|v=>v
def uG (E:Env) (op:BinOp) (t:TypeId) (x y:SV U.Ty):Tr U (SV U.Ty):=
 match x,y with
 | .agg xs,.agg ys=>match E.flat t with
  | some ks=>match KN ks xs ys with
   | some b=>(match op with | .eql=>.leaf (.sb b) | .neq=>.leaf (.sb !b)|_=>.fail)
   | none=>.fail
  | none=>.fail
 | x,y=>match asInt x,asInt y with
  | some (k,a),some (j,b)=>(match op with
   | .shl=>Xx .shl k a b (isLit y)
   | .shr=>Xx .shr k a b (isLit y)
   | op=>if k=j then tZ op k a b (isLit y) else .fail)
  | _,_=>match IY x,IY y with
   | some a,some b=>tX op a b
   | _,_=>match asBool x,asBool y with
    | some a,some b=>if E.isBool t then (match op with | .eql=>.leaf (.sb (a==b)) | .neq=>.leaf (.sb (!(a==b)))|_=>.fail) else .fail
    | _,_=>.fail
def unT (op:UnOp) (x:SV U.Ty):Tr U (SV U.Ty):=
 match op,asInt x,asBool x with
 | .neg,some (k,n),_=>.leaf (.si k (k.wrap (0 - n)))
 | .xor,some (k,n),_=>.leaf (.si k (bits .xor k (if k.signed then -1 else k.max) n))
 | .not,_,some b=>.leaf (.sb !b)
 | _,_,_=>.fail
def V6 (isMax:Bool) (k:IntKind):Int->List (SV U.Ty)->Option Int
 | a,[]=>some a
 | a,x::rest=>match asInt x with
  | some (j,b)=>if k=j then V6 isMax k (if isMax then (if b>a then b else a) else (if b<a then b else a)) rest else none
  | none=>none
def Xk (isMax:Bool):List (SV U.Ty)->Tr U (SV U.Ty)
 | x::rest=>match asInt x with
  | some (k,a)=>(match V6 isMax k a rest with|some r=>.leaf (.si k r)|none=>.fail)
  | none=>.fail
 | []=>.fail
def OY (cs:List (SV U.Ty)):List (Nat×SV U.Ty)->(Nat->Option (Nat×Nat))->Option (List (SV U.Ty))
 | [],_=>some cs
 | (i,v)::rest,place=>
  match place i with
  | none=>none
  | some (off,size)=>if (cellsS v).length==size&&decide (off+size<=cs.length)&&okS v then OY (cs.take off++cellsS v++cs.drop (off+size)) rest place else none
def rF (E:Env) (t:TypeId) (parts:List (Nat×SV U.Ty)):Option (SV U.Ty):=
 match E.ti t with
 | some i=>match i.zero with
  | some z=>
   if okV z then
    match i.ty with
    | .struct fs=>if fs.all fun x=>(E.ti x.2).isSome then (OY (cellsS (I7 U z)) parts (placesOf E fs)).map .agg else none
    | .array _ e=>match E.ti e with
     | some ei=>(OY (cellsS (I7 U z)) parts (fun i=>some (i*ei.size,ei.size))).map .agg
     | none=>none
    | _=>none
   else none
  | none=>none
 | none=>none
def jW (E:Env) (k:Nat) (H:Ad U) (t:TypeId) (n:Nat) (parts:List (Nat×SV U.Ty)):Tr U (SV U.Ty×Ad U):=
 match E.ti t with
 | some ⟨.slice e,_,_,_⟩=>match E.ti e with
  | some ei=>match ei.zero with
   | some z=>(NK H (parts.map (·.2))).andThen fun vs=>match OO e vs with
    | some ys=>.when ((n*ei.size<=16777216/\0<ei.size/\z.cells.length=ei.size/\okV z=true)/\parts.map (·.1)=List.range n/\vs.all (fun v=>(cellsS v).length==ei.size)=true/\U.AZ e=ei.size)
      (.leaf (.all k n,Lc (Nh H ((parts.map (·.2)).flatMap J8)) k (.row e ys none)))
    | none=>.fail
   | none=>.fail
  | none=>.fail
 | _=>.fail
def kR (E:Env) (s:TypeId) (x:SV U.Ty) (f:Nat):Option (SV U.Ty):=
 match E.ti s with
 | some ⟨.struct fs,_,_,_⟩=>match fs[f]? with
  | some (o,t)=>match E.size t with
   | some sz=>if sz=0 then none else match x with
    | .ptr id j off tot=>some (.ptr id j (off+o) tot)
    | .BK d xs j off=>some (.BK d xs j (off+o))
    | .raw (.BK d xs j off)=>some (.raw (.BK d xs j (off+o)))
    | _=>none
   | none=>none
  | none=>none
 | _=>none
def qP (E:Env) (s:TypeId) (x:SV U.Ty) (f:Nat):Option (SV U.Ty):=
 match E.ti s,x with
 | some ⟨.struct fs,_,_,_⟩,.agg cs=>match fs[f]? with
  | some (o,t)=>match E.ti t with|some i=>OT cs o i.size i.isAgg|none=>none
  | none=>none
 | _,_=>none
def YN (H:Ad U) (x:SV U.Ty) (e:Nat):Tr U (List (U.Ty e)):=
 let go (t:Nat) (xs:List (U.Ty t)):Tr U (List (U.Ty e)):=if h:t=e then .leaf (h▸xs) else .fail
 match x with
 | .nil _=>.leaf []
 | .sl t xs=>go t xs
 | .BR t xs=>go t xs
 | .all id n=>rowAt H id n fun t xs _=>go t xs
 | .Az id off len tot=>rowAt H id tot fun t xs _=>.chk (decide (off+len<=tot)) (go t ((xs.drop off).take len))
 | _=>.fail
def pM (E:Env) (k:Nat) (H:Ad U) (t u:TypeId) (s x:SV U.Ty):Tr U (SV U.Ty×Ad U):=
 match E.ti t with
 | some ⟨.slice e,_,_,_⟩=>match E.ti e with
  | some ei=>.when (u=t/\0<ei.size/\ei.QL=true/\U.AZ e=ei.size) ((YN H x e).andThen fun ys=>
    match s with
    | .all id n=>rowAt H id n fun t' xs fl=>if h:t' = e then
      .chk (decide ((n+ys.length)*ei.bytes<=lim)&&decide (n+ys.length<=maxLen))
       (.leaf (.all id ((h▸xs:List (U.Ty e))++ys).length,H.set id (.row e ((h▸xs:List (U.Ty e))++ys) fl)))
     else .fail
    | .Az id off len tot=>rowAt H id tot fun t' xs fl=>if h:t' = e then
      .chk (decide (off=0)&&(decide (fl.getD 0<=len)&&(decide (len<tot)&&decide (len+ys.length<=tot))))
       (.leaf (.Az id 0 (len+ys.length) tot,H.set id (.row e ((h▸xs:List (U.Ty e)).take len++ys++(h▸xs:List (U.Ty e)).drop (len+ys.length)) fl)))
     else .fail
    | .nil _=>.chk (decide (ys.length*ei.bytes<=lim)&&decide (ys.length<=maxLen)) (.leaf (.all k ys.length,Lc H k (.row e ys none)))
    | .BR t' xs=>if h:t' = e then
      .chk (decide ((xs.length+ys.length)*ei.bytes<=lim)&&decide (xs.length+ys.length<=maxLen))
       (.br ys.isEmpty (.leaf (.BR t' xs,H)) (.leaf (.all k ((h▸xs:List (U.Ty e))++ys).length,Lc H k (.row e ((h▸xs:List (U.Ty e))++ys) none))))
     else .fail
    | _=>.fail)
  | none=>.fail
 | _=>.fail
def sV (E:Env) (H:Ad U) (t u:TypeId) (d x:SV U.Ty):Tr U (SV U.Ty×Ad U):=
 match E.ti t with
 | some ⟨.slice e,_,_,_⟩=>match E.ti e with
  | some ei=>.when (U.AZ e=ei.size) ((YN H x e).andThen fun ys=>
    match d with
    | .all id n=>rowAt H id n fun t' xs fl=>if h:t' = e then
      .when (fl.getD 0=0) (.leaf (.si .i64 (min ys.length xs.length:Nat),H.set id (.row e (ys.take xs.length++(h▸xs:List (U.Ty e)).drop ys.length) fl)))
     else .fail
    | _=>.fail)
  | none=>.fail
 | _=>.fail
def uI (x:SV U.Ty):Option Nat:=
 match x with
 | .nil _=>some 0
 | .sl _ xs=>some xs.length
 | .BR _ xs=>some xs.length
 | .lit (.string s)=>some s.size
 | .ss s=>some s.size
 | _=>none
def Kv {L:Type} (H:Ad U) (x:SV U.Ty) (k:Nat->Tr U L):Tr U L:=
 match x with
 | .all id n=>rowAt H id n fun _ _ _=>k n
 | .Az id _ len tot=>rowAt H id tot fun _ _ _=>k len
 | x=>match uI x with|some n=>k n|none=>.fail
def PY (x:SV U.Ty):Bool:=(IY x).isSome
def oG (E:Env) (t:TypeId) (x:SV U.Ty):Bool:=
 if PY x then E.isStr t else match E.ti t with|some ⟨.slice _,_,_,_⟩=>true|_=>false
def Ul {L:Type} (x:Option (SV U.Ty)) (hi dflt:Nat) (k:Nat->Tr U L):Tr U L:=
 match x with
 | none=>k dflt
 | some v=>match asInt v with
  | some (_,n)=>.chk (decide (0<=n/\n<=hi)) (k n.toNat)
  | none=>.fail
def rJ (E:Env) (H:Ad U) (x:SV U.Ty) (n:Nat):Bool:=
 match x with
 | .nil _=>true
 | .sl t _=>U.AZ t==n
 | .BR t _=>U.AZ t==n
 | .all id _ | .Az id _ _ _=>match H[id]? with|some (.row t _ _)=>U.AZ t==n|_=>false
 | _=>false
def kV (E:Env) (H:Ad U) (t:TypeId) (x:SV U.Ty):Bool:=
 if PY x then E.isStr t else match E.ti t with
  | some ⟨.slice e,_,_,_⟩=>match E.ti e with|some ei=>rJ E H x ei.size|none=>false
  | _=>false
def sliceT (E:Env) (H:Ad U) (t:TypeId) (x:SV U.Ty) (lo hi mx:Option (SV U.Ty)):Tr U (SV U.Ty×Ad U):=
 if kV E H t x then
  Kv H x fun n=>Ul hi n n fun h=>Ul lo h 0 fun l=>
   match mx with
   | some m=>(match hi with
    | none=>.fail
    | some _=>Ul (some m) n n fun k=>.chk (k==h)
     (match x with
      | .sl e xs=>.leaf (.BR e ((xs.drop l).take (h - l)),H)
      | .BR e xs=>.leaf (.BR e ((xs.drop l).take (h - l)),H)
      | .all id n=>rowAt H id n fun e xs _=>.leaf (.BR e ((xs.drop l).take (h - l)),Nh H [id])
      | _=>.fail))
   | none=>match x with
    | .nil e=>.leaf (.nil e,H)
    | .sl e xs=>.leaf (.sl e ((xs.drop l).take (h - l)),H)
    | .BR e xs=>.leaf (.sl e ((xs.drop l).take (h - l)),H)
    | .all id n=>(match lo,hi with
     | none,none=>.leaf (.all id n,H)
     | _,_=>.leaf (.Az id l (h - l) n,H))
    | .Az id off _ tot=>.leaf (.Az id (off+l) (h - l) tot,H)
    | x=>match IY x with
     | some s=>.leaf (.ss (s.extract l h),H)
     | none=>.fail
 else .fail
def mD (x:Option (SV U.Ty)) (n:Nat):Option Nat:=match x with
 | none=>some n
 | some (.lit (.int _ h))=>if 0<=h/\h<=n then some h.toNat else none
 | _=>none
def pG (E:Env) (H:Ad U) (n e:Nat) (x:SV U.Ty) (lo hi mx:Option (SV U.Ty)):Tr U (SV U.Ty×Ad U):=
 match x,lo,mD hi n,mx with
 | .ptr id i off tot,none,some m,none=>match H[id]? with
  | some (.var e' k (.agg cs))=>match OO e cs with
   | some ys=>.when ((i=0/\off=0/\tot=1/\cs.length=n/\n<=maxLen)/\E.size e=some 1/\U.AZ e=1/\cs.all (fun c=>(SH c).isSome)=true) (.leaf (.sl e (ys.take m),H.set id (.fvar e' k (.agg cs))))
   | none=>.fail
  | _=>.fail
 | _,_,_,_=>.fail
def YY {L:Type} {t:Nat} (xs:List (U.Ty t)):Nat->Nat->(List Value->Tr U L)->Tr U L
 | _,0,k=>k []
 | i,n+1,k=>.bind t xs[i]? fun x=>match SH (U.encS t x) with|some v=>YY xs (i+1) n fun vs=>k (v::vs)|none=>.fail
def uJ (E:Env) (t:TypeId) (x:SV U.Ty):Tr U (SV U.Ty):=
 match E.ti t,x with
 | some ⟨.array n e,_,_,_⟩,.sl t' xs=>.when (E.size e=some 1/\U.AZ t' = 1/\0<n) (YY xs 0 n fun vs=>.leaf (.raw (.BK n [.agg (vs.map .lit)] 0 0)))
 | _,_=>.fail
def PM {L:Type} (n:Int) (lit:Bool) (len:Nat) (k:Nat->Tr U L):Tr U L:=
 if lit then (if 0<=n/\n<len then k n.toNat else .fail)
 else (List.range len).foldr (fun(i:Nat) rest=>.br (n==(i:Int)) (k i) rest) .fail
def lU (E:Env) (H:Ad U) (t:TypeId) (x i:SV U.Ty):Tr U (SV U.Ty):=
 match asInt i,E.ti t with
 | some (_,n),some ti=>
  match ti.ty with
  | .slice el=>(match x with
   | .sl et xs=>.when (E.size el=some (U.AZ et)) (.chk (decide (0<=n/\n<xs.length)) (.leaf (.BK et xs n.toNat 0)))
   | .BR et xs=>.when (E.size el=some (U.AZ et)) (.chk (decide (0<=n/\n<xs.length)) (.leaf (.BK et xs n.toNat 0)))
   | .all id m=>rowAt H id m fun et xs _=>.when (E.size el=some (U.AZ et)) (.chk (decide (0<=n/\n<m)) (.leaf (.ptr id n.toNat 0 m)))
   | .Az id off len tot=>rowAt H id tot fun et xs _=>.when (E.size el=some (U.AZ et)) (.chk (decide (0<=n/\n<len)) (.leaf (.ptr id (off+n.toNat) 0 tot)))
   | _=>.fail)
  | .array len e=>(match E.size e with
   | none=>.fail
   | some sz=>match x with
    | .ptr id j off tot=>PM n (isLit i) len fun m=>.leaf (.ptr id j (off+m*sz) tot)
    | .BK d xs j off=>PM n (isLit i) len fun m=>.leaf (.BK d xs j (off+m*sz))
    | .raw (.BK d [.agg cs] 0 0)=>if (decide (sz=1)&&(cs.all HY && !isLit i))=true then .chk (decide (0<=n/\n<len)) (.leaf (.QM d cs n.toNat))
     else PM n (isLit i) len fun m=>.leaf (.raw (.BK d [.agg cs] 0 (0+m*sz)))
    | .raw (.BK d xs j off)=>PM n (isLit i) len fun m=>.leaf (.raw (.BK d xs j (off+m*sz)))
    | _=>.fail)
  | _=>.fail
 | _,_=>.fail
def rM (E:Env) (t:TypeId) (x i:SV U.Ty):Tr U (SV U.Ty):=
 match asInt i with
 | some (_,n)=>
  match E.ti t,x with
  | some ⟨.array len e,_,_,_⟩,.agg cs=>match E.ti e with
   | some ei=>PM n (isLit i) len fun m=>.opt (OT cs (m*ei.size) ei.size ei.isAgg)
   | none=>.fail
  | some ⟨.scalar,_,_,_⟩,x=>match IY x with
   | some s=>if E.isStr t then .chk (decide (0<=n/\n<s.size)) (.leaf (.si .u8 (s.get! n.toNat).toNat)) else .fail
   | none=>.fail
  | _,_=>.fail
 | none=>.fail
def Fe (U:CE) (t:Nat) (xs:List (U.Ty t)):Bool:=match bytesOf (xs.map (U.enc t)) with|some bs=>decide (bs.length<=maxLen)|none=>false
def strOf (U:CE) (t:Nat) (xs:List (U.Ty t)):ByteArray:=⟨((bytesOf (xs.map (U.enc t))).getD []).toArray⟩
def Rw (t:Nat) (xs:List (U.Ty t)):Tr U (SV U.Ty):=.when (U.AZ t=1) (.chk (Fe U t xs) (.leaf (.ss (strOf U t xs))))
def rH (E:Env) (H:Ad U) (src dst:TypeId) (x:SV U.Ty):Tr U (SV U.Ty):=
 .when ((E.isStr dst&&E.isBytes src)=true) (match x with
  | .nil _=>.leaf (.ss ⟨#[]⟩)
  | .sl t xs=>Rw t xs
  | .BR t xs=>Rw t xs
  | .all id n=>rowAt H id n fun t xs _=>Rw t xs
  | .Az id off len tot=>rowAt H id tot fun t xs _=>.chk (decide (off+len<=tot)) (Rw t ((xs.drop off).take len))
  | _=>.fail)
def sD (E:Env) (H:Ad U) (src dst:TypeId) (x:SV U.Ty):Tr U (SV U.Ty):=
 match asInt x with
 | some (_,n)=>(match E.kind dst with
  | some k=>if (E.ti src).isSome then .leaf (.si k (k.wrap n)) else .fail
  | none=>.fail)
 | none=>match IY x with
  | some s=>if E.isStr src&&E.isStr dst then .leaf (.ss s) else .fail
  | none=>rH E H src dst x
def YX (U:CE) (e:Nat) (st:ByteArray):Bool:=st.data.toList.all fun b=>(U.FV e (.si .u8 b.toNat)).isSome
def JX (U:CE) (e:Nat) (st:ByteArray):List (U.Ty e):=st.data.toList.filterMap fun b=>U.FV e (.si .u8 b.toNat)
def qO (E:Env) (k:Nat) (H:Ad U) (dst:TypeId) (x:SV U.Ty):Tr U (SV U.Ty×Ad U):=
 match IY x,E.ti dst with
 | some st,some ⟨.slice e,_,_,_⟩=>.when (E.size e=some 1/\U.AZ e=1) (.chk (YX U e st) (.leaf (.all k (JX U e st).length,Lc H k (.row e (JX U e st) none))))
 | _,_=>.fail
abbrev GY (U:CE):=FuncId->List (SV U.Ty)->Ad U->Tr U (SV U.Ty×Ad U)
def Y8 (x:SV U.Ty):Option (Int×Bool):=match x with | .lit (.int _ n)=>some (n,true) | .si _ n=>some (n,false)|_=>none
def IC (H:Ad U) (T:Tr U (SV U.Ty)):Tr U (SV U.Ty×Ad U):=T.andThen fun v=>.leaf (v,H)
def sQ (E:Env) (M:GY U) (k:Nat) (H:Ad U) (s:List (SV U.Ty)) (c:Call):Tr U (SV U.Ty×Ad U):=
 match c.callee with
 | .builtin b=>(match b,c.args.toList.map (Bd E s),c.argTypes.toList with
  | .len,[x],[t]=>if oG E t x then Kv H x fun n=>.leaf (.si .i64 n,H) else .fail
  | .append,[a,x],[t,u]=>pM E k H t u a x
  | .copy,[d,x],[t,u]=>sV E H t u d x
  | .min,args,_=>IC H (Xk false args)
  | .max,args,_=>IC H (Xk true args)
  | _,_,_=>.fail)
 | .value f=>(match Bd E s f with
  | .fn g first caps=>M g (first++c.args.toList.map (Bd E s)++caps) H
  | _=>.fail)
 | _=>.fail
def Nb {L:Type} (kd:IntKind) (n:Int) (lit:Bool) (z:Tr U L) (f:SV U.Ty->Tr U L):List (SV U.Ty)->Tr U L
 | []=>z
 | .lit (.int k a)::v::r=>.when (k=kd) (if lit then (if n=a then f v else Nb kd n lit z f r) else .br (n==a) (f v) (Nb kd n lit z f r))
 | _=>.fail
def rV (E:Env) (t:TypeId) (ok:Bool) (m x:SV U.Ty):Tr U (SV U.Ty):=
 match E.ti t,m,asInt x with
 | some ⟨.map k e,_,_,_⟩,.MO kvs,some (kd,n)=>.when (E.kind k=some kd)
  (Nb kd n (isLit x) (match E.ti e with|some ei=>(match ei.zero with|some z=>.leaf (if ok then .Aw [I7 U z,.lit (.bool false)] else I7 U z)|none=>.fail)|none=>.fail)
   (fun v=>.leaf (if ok then .Aw [v,.lit (.bool true)] else v)) kvs)
 | _,_,_=>.fail
def V5 (E:Env) (M:GY U) (k:Nat) (H:Ad U) (s:List (SV U.Ty)) (o:Oper):Tr U (SV U.Ty×Ad U):=
 match o.op with
 | .move x=>.leaf (Bd E s x,H)
 | .assign (.const (.slice none 0 0))=>match E.ti o.type with
  | some ⟨.slice e,_,_,_⟩=>.when (U.AZ e=(E.size e).getD 0) (.leaf (.all k 0,Lc H k (.row e [] none)))
  | _=>.fail
 | .assign x=>.leaf (Bd E s x,H)
 | .pick c a b=>(match Bd E s c with
  | .lit (.bool true)=>.leaf (Bd E s a,H)
  | .lit (.bool false)=>.leaf (Bd E s b,H)
  | .sb t=>(match asBool (Bd E s a),asBool (Bd E s b) with
   | some x,some y=>.leaf (.sb (cond t x y),H)
   | _,_=>.br t (.leaf (Bd E s a,H)) (.leaf (Bd E s b,H)))
  | _=>.fail)
 | .alloc t=>match E.ti t with
  | some i=>match i.zero with|some z=>.when (z.cells.length=i.size/\okV z=true) (.leaf (.ptr k 0 0 1,Lc H k (.var t i.size (I7 U z))))|none=>.fail
  | none=>.fail
 | .box t x=>match E.ti t with
  | some i=>.when ((cellsS (Bd E s x)).length=i.size/\okS (Bd E s x)=true) (.leaf (.ptr k 0 0 1,Lc H k (.var t i.size (Bd E s x))))
  | none=>.fail
 | .build t parts=>IC H (.opt (rF E t (parts.toList.map fun(i,x)=>(i,Bd E s x))))
 | .buildSlice t n parts=>jW E k H t n (parts.toList.map fun(i,x)=>(i,Bd E s x))
 | .load t a=>IC H (loadT E H t (Bd E s a))
 | .store t a v=>(storeT E H t (Bd E s a) (Bd E s v)).andThen fun H' =>.leaf (.no,H')
 | .nilCheck x=>(match Bd E s x with
  | .ptr a b c d=>.leaf (.ptr a b c d,H)
  | .BK a b c d=>.leaf (.BK a b c d,H)
  | .raw (.BK a b c d)=>.leaf (.raw (.BK a b c d),H)
  | .fn a b c=>.leaf (.fn a b c,H)
  | _=>.fail)
 | .binOp op t x y _=>IC H ((uG E op t (Bd E s x) (Bd E s y)).andThen fun v=>.leaf (if isLit (Bd E s x)&&isLit (Bd E s y) then sG v else v))
 | .unOp op _ x=>IC H (unT op (Bd E s x))
 | .convert src dst x=>if E.isStr src&&E.isBytes dst then qO E k H dst (Bd E s x) else IC H (sD E H src dst (Bd E s x))
 | .makeSlice t l c=>match E.ti t with
  | some ⟨.slice e,_,_,_⟩=>(match Y8 (Bd E s l),Y8 (Bd E s c),E.ti e with
   | some (n,_),some (m,_),some ei=>(match ei.zero with
    | some z=>(match U.FV e (I7 U z) with
     | some y=>.when (0<ei.size/\z.cells.length=ei.size/\okV z=true/\U.AZ e=ei.size)
       (.chk (decide (0<=n/\n<=m/\m.toNat*ei.bytes<=lim/\m<=maxLen)) (.leaf (.all k (List.replicate n.toNat y).length,Lc H k (.row e (List.replicate n.toNat y) none))))
     | none=>.fail)
    | none=>.fail)
   | _,_,_=>.fail)
  | _=>.fail
 | .slice t x lo hi mx=>match E.ti t with
  | some ⟨.array n e,_,_,_⟩=>pG E H n e (Bd E s x) (lo.map (Bd E s)) (hi.map (Bd E s)) (mx.map (Bd E s))
  | _=>sliceT E H t (Bd E s x) (lo.map (Bd E s)) (hi.map (Bd E s)) (mx.map (Bd E s))
 | .sliceToArrayPointer t x=>IC H (uJ E t (Bd E s x))
 | .fieldAddr t x f=>IC H (.opt (kR E t (Bd E s x) f))
 | .field t x f=>IC H (.opt (qP E t (Bd E s x) f))
 | .indexAddr t x i=>IC H (lU E H t (Bd E s x) (Bd E s i))
 | .index t x i=>IC H (rM E t (Bd E s x) (Bd E s i))
 | .extract x i=>(match Bd E s x with | .Aw vs=>IC H (.opt vs[i]?)|_=>.fail)
 | .lookup t m x ok=>IC H (rV E t ok (Bd E s m) (Bd E s x))
 | .makeFunc (.func f) first caps=>.leaf (.fn f (first.toList.map (Bd E s)) (caps.toList.map (Bd E s)),H)
 | .call c=>sQ E M k H s c
 | _=>.fail
def stepT (E:Env) (M:GY U) (ops:Array Oper) (k i:Nat) (st:CP U):Tr U (CP U):=
 match ops[i]? with
 | none=>.leaf st
 | some o=>
  let run (st:CP U):Tr U (CP U):=(V5 E M k st.H st.s o).andThen fun r=>.leaf ⟨Oa st.s o.dst r.1,r.2⟩
  let skip (st:CP U):Tr U (CP U):=.leaf ⟨Oa st.s o.dst .no,st.H⟩
  match o.guard with
  | none=>run st
  | some (j,want)=>
   match (ops[j]?).bind (·.dst) with
   | none=>.fail
   | some d=>(match st.s.getD d .und with
    | .no=>skip st
    | .lit (.bool true)=>if want then run st else skip st
    | .lit (.bool false)=>if want then skip st else run st
    | .sb b=>.br b (if want then run ⟨st.s.set d (.lit (.bool true)),st.H⟩ else skip ⟨st.s.set d (.lit (.bool true)),st.H⟩)
      (if want then skip ⟨st.s.set d (.lit (.bool false)),st.H⟩ else run ⟨st.s.set d (.lit (.bool false)),st.H⟩)
    | _=>.fail)
def opsT (E:Env) (M:GY U) (ops:Array Oper):List Nat->CP U->Tr U (CP U)
 | [],st=>.leaf st
 | i::rest,st=>(stepT E M ops st.H.length i st).andThen (opsT E M ops rest)
def O0:SV U.Ty->List Nat
 | .Az id _ _ _=>[id]
 | .all id _=>[id]
 | .ptr id _ _ _=>[id]
 | .raw v=>Cj v
 | _=>[]
def qY:SV U.Ty->List Nat
 | .agg cs=>cs.flatMap O0
 | .raw v=>Us v
 | v=>O0 v
def VE:SV U.Ty->List Nat
 | .agg cs=>cs.flatMap O0
 | .fn _ a b=>(a++b).flatMap qY
 | .raw v=>Ba v
 | v=>O0 v
def Z4s:SV U.Ty->Bool | .fn _ _ _=>true | .raw v=>YW v|_=>false
def qW (E:Env):SV U.Ty->Bool
 | .fn g a b=>Ob E g&&(a++b).all (fun v=>!Z4s v)
 | _=>false
def qI (E:Env) (s:List (SV U.Ty)) (o:Oper):Bool:=
 match o.op with
 | .call c=>(match c.callee with
  | .value (.tmp t)=>!(E.quiet&&o.type != 0)||qW E (s.getD t .und)
  | _=>true)
 | _=>true
def RQ (E:Env) (s:List (SV U.Ty)) (o:Oper):List Nat:=o.op.operands.toList.flatMap fun x=>VE (Bd E s x)
def Z3S:JS U.Ty->Bool | .dead=>true|_=>false
def Qy (E:Env) (s:List (SV U.Ty)) (o:Oper):SV U.Ty:=match I9 o with|some a=>Bd E s a|_=>.no
def qB (H:Ad U) (a:SV U.Ty) (k:Nat):Bool:=match a with
 | .ptr id _ _ tot=>id==k&&(match H[id]? with|some (.var _ _ _)=>tot==1|_=>false)
 | .all id _=>id==k&&(match H[id]? with|some (.row _ _ _)=>true|_=>false)
 | _=>false
def Uh (base:Nat) (s0:List (SV U.Ty)):Nat⊕Nat->Option Nat
 | .inl j=>some (base+j)
 | .inr d=>match s0.getD d .und with | .ptr id _ _ _=>some id | .all id _=>some id|_=>none
def sN (E:Env) (ms:List Nat) (lt:List (Nat×(Nat⊕Nat))) (s0:List (SV U.Ty)) (base i:Nat) (s:List (SV U.Ty)) (H:Ad U) (o:Oper):Bool:=
 lt.all fun p=>match Uh base s0 p.2 with
  | none=>false
  | some k=>if p.1=i then qB H (Qy E s o) k else !needs E o||(linked ms p.1 i || !(RQ E s o).contains k)
def Y4 (E:Env) (ops:Array Oper) (base:Nat) (s0:List (SV U.Ty)) (o:Oper):Option Nat:=match o.op with
 | .load _ (.tmp d)=>(rootOf E ops 12 d).bind (Uh base s0)
 | _=>none
def rD (E:Env) (ops:Array Oper) (ms:List Nat) (lt:List (Nat×(Nat⊕Nat))) (s0:List (SV U.Ty)) (base i:Nat) (s:List (SV U.Ty)) (o:Oper):Bool:=
 (List.range ops.size).all fun j=>match ops[j]? with
  | none=>true
  | some oj=>linked ms i j||((!(isApp o&&H9 oj)||(lt.any (fun p=>p.1==i)||(match Y4 E ops base s0 oj,Qy E s o with|some n,.all id _=>id != n|_,_=>false))) &&
    (!(H9 o&&isApp oj)||(lt.any (fun p=>p.1==j)||(match Y4 E ops base s0 o with|some n=>(RQ E s o).all (fun i=>i==n)|none=>false))))
def Z3U:JS U.Ty->Bool | .dead=>true | .var _ _ _=>true|_=>false
def Yd (ops:Array Oper) (base:Nat) (H:Ad U):Bool:=
 (List.range ops.size).all fun j=>match ops[j]? with|some oj=>!MI oj||(match H[base+j]? with|some b=>Z3U b|none=>false)|none=>true
def qG (E:Env) (M:GY U) (ops:Array Oper) (ms:List Nat) (lt:List (Nat×(Nat⊕Nat))) (s0:List (SV U.Ty)) (base m i:Nat) (st:CP U):Tr U (CP U):=
 match ops[i]? with
 | none=>.leaf st
 | some o=>
  .when ((RQ E st.s o).all (fun id=>decide (id<base)||(decide (base+m<=id)&&RZ E ops ms i)||(decide (id<base+m)&&(ms.getD i 0).testBit (id - base)))=true) (.when ((qI E st.s o&&rD E ops ms lt s0 base i st.s o&&sN E ms lt s0 base i st.s st.H o&&(!GM E o||(decide (base+m<=st.H.length)&&(!Fj E o||Yd ops base st.H))))=true)
   (if BF E o = .a then
    match st.H[base+i]? with
    | some b=>if Z3S b then stepT E M ops (base+i) i st else .fail
    | none=>.fail
    else stepT E M ops st.H.length i st))
def U8 (E:Env) (M:GY U) (ops:Array Oper) (ms:List Nat) (lt:List (Nat×(Nat⊕Nat))) (s0:List (SV U.Ty)) (base m:Nat):List Nat->CP U->Tr U (CP U)
 | [],st=>.leaf st
 | i::rest,st=>(qG E M ops ms lt s0 base m i st).andThen (U8 E M ops ms lt s0 base m rest)
def YZ (E:Env) (M:GY U) (ops:Array Oper) (st:CP U):Tr U (CP U):=
 let m:=if ops.any (fun o=>decide (BF E o = .a)) then ops.size else 0
 U8 E M ops (Ec [] ops.toList) (Nc E ops) st.s st.H.length m (List.range ops.size) ⟨st.s,st.H++List.replicate m .dead⟩
end
structure CG (U:CE) (E:Env):Prop where
 encS:∀t a,AO U (U.encS t a)=U.enc t a
 dec:∀t v a,U.FV t v=some a->DJ (E.rows t) (AO U v)=U.enc t a
 cells:∀t a,(U.enc t a).cells=A7 U (cellsS (U.encS t a))
 nr:∀t a,BQ (U.enc t a)=true
 inj:∀t∈U.keys,∀a b,U.enc t a=U.enc t b->a=b
section
variable {U:CE}
theorem Dl (xs:List (SV U.Ty)):A7 U xs=xs.map (AO U):=by
 induction xs with
 | nil=>rfl
 | cons x xs ih=>simp [A7,ih]
theorem Qp (s:List (SV U.Ty)) (t:Nat):(A7 U s).getD t .und=AO U (s.getD t .und):=by
 rw [Dl]
 simp only [List.getD,List.getElem?_map]
 cases s[t]?<;>rfl
theorem oJ (v:V):AO U (O7 U v)=v:=by
 unfold O7
 split<;>rfl
theorem RD (v:V):AO U (I7 U v)=v:=by
 unfold I7
 split
 ·rename_i cs
  simp only [AO,Dl,List.map_map,V.agg.injEq]
  conv=>rhs;rw [<- List.map_id cs]
  apply List.map_congr_left
  intro x _
  exact oJ x
 ·exact oJ _
theorem ET (E:Env) (s:List (SV U.Ty)) (x:Operand):ev E (A7 U s) x=AO U (Bd E s x):=by
 cases x with
 | tmp t=>exact Qp s t
 | const v=>simp only [ev,Bd,RD]
 | func f=>rfl
 | global g=>simp only [ev,Bd];cases E.Ci g<;>rfl
theorem Z36 (E:Env) (s:List (SV U.Ty)) (xs:List Operand):xs.map (ev E (A7 U s))=A7 U (xs.map (Bd E s)):=by
 rw [Dl (xs.map (Bd E s)),List.map_map]
 apply List.map_congr_left
 intro x _
 exact ET E s x
theorem Z3q (s:List (SV U.Ty)) (d:Option Tmp) (v:SV U.Ty):A7 U (Oa s d v)=setSlot (A7 U s) d (AO U v):=by
 unfold Oa setSlot
 cases d with
 | none=>rfl
 | some t=>simp only [Dl,List.map_set]
theorem OA (H:Ad U):(Aj U H).length=H.length:=by simp [Aj]
theorem JF (H:Ad U) (i:Nat):(Aj U H)[i]? = (H[i]?).map (BM U):=by simp [Aj]
theorem NS (H:Ad U) (i:Nat) (b:JS U.Ty):Aj U (H.set i b)=(Aj U H).set i (BM U b):=by simp [Aj,List.map_set]
theorem OD (H:Ad U) (k:Nat) (b:JS U.Ty):Aj U (Lc H k b)=place (Aj U H) k (BM U b):=by
 unfold Lc place
 rw [OA]
 split
 ·exact NS H k b
 ·simp [Aj]
theorem NJ {x:SV U.Ty} (h:okS x=true):okV (AO U x)=true:=by
 cases x<;>simp_all [okS,AO,okV]
 grind
theorem Ov {x:SV U.Ty} (h:okS x=true):(AO U x).cells=A7 U (cellsS x):=by
 cases x<;>simp_all [okS,AO,V.cells,cellsS,A7]
 grind
theorem DC {L M:Type} (T:Tr U L) (f:L->Tr U M) (y:M):(T.andThen f).AP y↔∃x,T.AP x/\(f x).AP y:=by
 induction T with
 | leaf l=>simp [Tr.andThen,Tr.AP]
 | br c a b iha ihb=>
  simp only [Tr.andThen,Tr.AP,iha,ihb]
  grind
 | bind t o k ih=>
  simp only [Tr.andThen,Tr.AP,ih]
  grind
 | chk c a ih=>
  simp only [Tr.andThen,Tr.AP,ih]
  grind
 | fail=>simp [Tr.andThen,Tr.AP]
theorem LY {L:Type} {o:Option L} {x:L}:(Tr.opt (U:=U) o).AP x↔o=some x:=by
 cases o<;>simp [Tr.opt,Tr.AP]
theorem D6 {L:Type} {p:Prop} [Decidable p] {a:Tr U L} {x:L}:(Tr.when p a).AP x↔p/\a.AP x:=by
 unfold Tr.when
 split<;>simp_all [Tr.AP]
theorem FX {L:Type} {H:Ad U} {id tot:Nat} {k:(t:Nat)->List (U.Ty t)->Option Nat->Tr U L} {y:L} (h:(rowAt H id tot k).AP y) :
  ∃t xs fl,H[id]? = some (.row t xs fl)/\xs.length=tot/\(k t xs fl).AP y/\CB (Aj U H) id tot=some (BM U (.row t xs fl)):=by
 unfold rowAt at h
 split at h
 ·rename_i t xs fl hb
  simp only [Tr.AP,beq_iff_eq] at h
  refine⟨t,xs,fl,hb,h.1,h.2,?_⟩
  unfold CB
  rw [JF,hb]
  simp [BM,h.1]
 ·simp [Tr.AP] at h
theorem oI {H:Ad U} {x y:SV U.Ty} (h:(Ku H x).AP y):Ee (Aj U H) (AO U x)=some (AO U y):=by
 unfold Ku at h
 split at h<;>(try (simp only [Tr.AP] at h;subst h;rfl))
 ·obtain⟨t,xs,fl,h1,h2,h3,h4⟩:=FX h
  simp only [Tr.AP] at h3
  subst h3
  subst h2
  simp only [AO,Ee,h4]
  simp only [BM,Nat.zero_add,Nat.le_refl,decide_true,Bool.and_self,if_true,List.drop_zero,Option.some.injEq,V.sl.injEq,true_and]
  exact List.take_of_length_le (by simp)
 ·obtain⟨t,xs,fl,h1,h2,h3,h4⟩:=FX h
  simp only [Tr.AP,decide_eq_true_eq] at h3
  obtain⟨h3,rfl⟩:=h3
  simp only [AO,Ee,h4]
  simp [BM,h3,List.map_take,List.map_drop]
 ·simp [Tr.AP] at h
theorem ZgH {H:Ad U}:∀{xs ys:List (SV U.Ty)},(Pn H xs).AP ys->I4 (Aj U H) (A7 U xs)=some (A7 U ys):=by
 intro xs
 induction xs with
 | nil=>intro ys h;simp only [Pn,Tr.AP] at h;subst h;rfl
 | cons x xs ih=>
  intro ys h
  simp only [Pn,DC,Tr.AP] at h
  obtain⟨w,h1,ws,h2,rfl⟩:=h
  simp only [A7,I4,oI h1,ih h2]
theorem Xg {H:Ad U} {x y:SV U.Ty} (h:(O9 H x).AP y):Fp (Aj U H) (AO U x)=some (AO U y):=by
 unfold O9 at h
 split at h
 ·rename_i cs
  simp only [DC,Tr.AP] at h
  obtain⟨ws,h1,rfl⟩:=h
  simp only [AO,Fp,ZgH h1,Option.map_some]
 ·rename_i hne
  have:=oI h
  unfold Fp
  split
  ·rename_i cs hcs
   exfalso
   cases x<;>simp_all [AO,Ku,Tr.AP]
  ·exact this
theorem lV {H:Ad U}:∀{xs ys:List (SV U.Ty)},(NK H xs).AP ys->EE (Aj U H) (A7 U xs)=some (A7 U ys):=by
 intro xs
 induction xs with
 | nil=>intro ys h;simp only [NK,Tr.AP] at h;subst h;rfl
 | cons x xs ih=>
  intro ys h
  simp only [NK,DC,Tr.AP] at h
  obtain⟨w,h1,ws,h2,rfl⟩:=h
  simp only [A7,EE,Xg h1,ih h2]
theorem Z2K (x:SV U.Ty):Dn (AO U x)=Lt x:=by
 cases x<;>simp [AO,Dn,Lt]
theorem oO (x:SV U.Ty):CV (AO U x)=J8 x:=by
 cases x<;>simp [AO,CV,J8,Lt,Dn]
 rename_i cs
 rw [Dl,List.flatMap_map]
 simp [Z2K]
theorem mF (xs:List (SV U.Ty)):(A7 U xs).flatMap CV=xs.flatMap J8:=by
 rw [Dl,List.flatMap_map]
 simp [oO]
theorem Z2V (x:SV U.Ty):Cj (AO U x)=O0 x:=by
 cases x<;>simp [AO,Cj,O0]
theorem ZeW (x:SV U.Ty):Us (AO U x)=qY x:=by
 cases x<;>simp [AO,Us,qY,O0,Cj]
 rename_i cs
 rw [Dl,List.flatMap_map]
 simp [Z2V]
theorem ZeT (x:SV U.Ty):Ba (AO U x)=VE x:=by
 cases x with
 | agg cs=>
  simp only [AO,Ba,VE]
  rw [Dl,List.flatMap_map]
  simp [Z2V]
 | fn f a b=>
  simp only [AO,Ba,VE]
  rw [Dl,Dl,<- List.map_append,List.flatMap_map]
  simp [ZeW]
 | _=>simp [AO,Ba,VE,O0,Cj]
theorem Qs (H:Ad U):∀(ids:List Nat),(∀i∈ids,∃t xs fl,H[i]? = some (.row t xs fl))->Aj U (Nh H ids)=bump (Aj U H) ids:=by
 intro ids
 induction ids generalizing H with
 | nil=>intro _;rfl
 | cons i is ih=>
  intro h
  simp only [Nh,bump]
  have hmod:Aj U (H.modify i Xj)=(Aj U H).modify i fun b=>{ b with floor:=b.xs.length }:=by
   apply List.ext_getElem?
   intro j
   simp only [Aj,List.getElem?_map,List.getElem?_modify]
   by_cases hij:i=j
   ·subst hij
    obtain⟨t,xs,fl,hb⟩:=h i (by simp)
    simp [hb,Xj,BM]
   ·simp [hij]
  rw [ih,hmod]
  intro j hj
  obtain⟨t,xs,fl,hb⟩:=h j (by simp [hj])
  by_cases hij:i=j
  ·subst hij
   exact⟨t,xs,some xs.length,by simp [List.getElem?_modify,hb,Xj]⟩
  simp_all
theorem lF {H:Ad U} {x y:SV U.Ty} (h:(Ku H x).AP y):∀i∈Lt x,∃t xs fl,H[i]? = some (.row t xs fl):=by
 intro i hi
 unfold Ku at h
 split at h<;>(try (simp [Lt] at hi))
 ·obtain⟨t,xs,fl,h1,_⟩:=FX h
  simp_all
 ·obtain⟨t,xs,fl,h1,_⟩:=FX h
  simp_all
 ·simp [Tr.AP] at h
theorem Zdi {H:Ad U}:∀{xs ys:List (SV U.Ty)},(Pn H xs).AP ys->∀i∈xs.flatMap Lt,∃t xs fl,H[i]? = some (.row t xs fl):=by
 intro xs
 induction xs with
 | nil=>simp_all
 | cons x xs ih=>
  intro ys h i hi
  simp only [Pn,DC,Tr.AP] at h
  obtain⟨w,h1,ws,h2,rfl⟩:=h
  simp only [List.flatMap_cons,List.mem_append] at hi
  rcases hi with hi|hi
  ·exact lF h1 i hi
  ·exact ih h2 i hi
theorem Z2r {H:Ad U} {x y:SV U.Ty} (h:(O9 H x).AP y):∀i∈J8 x,∃t xs fl,H[i]? = some (.row t xs fl):=by
 unfold O9 at h
 split at h
 ·simp only [DC,Tr.AP] at h
  obtain⟨ws,h1,rfl⟩:=h
  exact Zdi h1
 ·rename_i hne
  intro i hi
  refine lF h i ?_
  cases x<;>simp_all [J8,Lt]
  simp [Ku,Tr.AP] at h
theorem Z0f {H:Ad U}:∀{xs ys:List (SV U.Ty)},(NK H xs).AP ys->∀i∈xs.flatMap J8,∃t xs fl,H[i]? = some (.row t xs fl):=by
 intro xs
 induction xs with
 | nil=>simp_all
 | cons x xs ih=>
  intro ys h i hi
  simp only [NK,DC,Tr.AP] at h
  obtain⟨w,h1,ws,h2,rfl⟩:=h
  simp only [List.flatMap_cons,List.mem_append] at hi
  rcases hi with hi|hi
  ·exact Z2r h1 i hi
  ·exact ih h2 i hi
theorem Qq (cs:List (SV U.Ty)) (off n:Nat) (b:Bool):partOf (A7 U cs) off n b=(OT cs off n b).map (AO U):=by
 unfold partOf OT
 simp only [Dl,List.length_map]
 split
 ·split
  ·simp [AO,Dl,List.map_take,List.map_drop]
  ·rfl
 ·simp
theorem Hg (cs:List (SV U.Ty)):(A7 U cs).length=cs.length:=by simp [Dl]
theorem Z16 {x:SV U.Ty} {off:Nat} {cs:List (SV U.Ty)} {y:SV U.Ty} (h:Xm x off cs=some y):JY (AO U x) off (A7 U cs)=some (AO U y):=by
 unfold Xm at h
 split at h
 ·rename_i ds
  split at h
  ·rename_i hle
   simp only [Option.some.injEq] at h
   subst h
   simp only [AO,JY,Hg,hle,if_true]
   simp [Dl,List.map_take,List.map_drop]
  ·cases h
 ·cases h
 ·rename_i h1 h2
  split at h
  ·rename_i c
   simp only [Option.some.injEq] at h
   subst h
   have:∀ds,AO U x≠.agg ds:=by
    intro ds hds
    cases x<;>simp_all [AO]
   unfold JY
   split
   ·simp_all
   ·simp [A7]
  ·cases h
theorem nO {H:Ad U} {id:Nat} {e n:Nat} {x:SV U.Ty} (h:H[id]? = some (.var e n x)):CB (Aj U H) id 1=some (BH false false e n [AO U x]):=by
 unfold CB
 rw [JF,h]
 simp [BM,BH]
theorem Z2d {H:Ad U} {id tot:Nat} {t:Nat} {xs:List (U.Ty t)} {fl:Option Nat} (h:H[id]? = some (.row t xs fl)) (hl:xs.length=tot):CB (Aj U H) id tot=some (BM U (.row t xs fl)):=by
 unfold CB
 rw [JF,h]
 simp [BM,hl]
theorem mQ {E:Env} (hU:CG U E) {e:Nat}:∀{vs:List (SV U.Ty)} {ys:List (U.Ty e)},OO e vs=some ys->(A7 U vs).map (DJ (E.rows e))=ys.map (U.enc e)/\∀v∈vs,okS v=true:=by
 intro vs
 induction vs with
 | nil=>intro ys h;simp only [OO,Option.some.injEq] at h;subst h;simp [A7]
 | cons v vs ih=>
  intro ys h
  simp only [OO] at h
  split at h
  ·rename_i a as h1 h2 h3
   simp only [Option.some.injEq] at h
   subst h
   obtain⟨i1,i2⟩:=ih h3
   refine⟨by simp only [A7,List.map_cons,i1,hU.dec _ _ _ h2],?_⟩
   simp_all
  ·cases h
theorem Zlh {E:Env} (hU:CG U E) {t:Nat} {cs:List V} {ys:List (U.Ty t)} {j:Nat} {x:U.Ty t} (hd:OO t (cs.map (O7 U))=some ys) (hl:cs.all HY=true) (hx:ys[j]? = some x):cs[j]? = some (AO U (U.encS t x)):=by
 obtain⟨h1,-⟩:=mQ hU hd
 have h2:A7 U (cs.map (O7 U))=cs:=by
  rw [Dl,List.map_map]
  exact(List.map_congr_left fun v _=>oJ v).trans (List.map_id cs)
 rw [h2] at h1
 have h3:=congrArg (·[j]?) h1
 simp only [List.getElem?_map,hx,Option.map_some] at h3
 cases hc:cs[j]? with
 | none=>simp [hc] at h3
 | some v=>
  simp only [hc,Option.map_some,Option.some.injEq] at h3
  have hv:=List.all_eq_true.1 hl v (List.mem_of_getElem? hc)
  cases v with
  | lit z=>rw [hU.encS,<- h3];rfl
  | _=>simp [HY] at hv
theorem Z2P {E:Env} (hU:CG U E) {H:Ad U} {t:TypeId} {a y:SV U.Ty} (h:(loadT E H t a).AP y):Jf E (Aj U H) t (AO U a)=some (AO U y):=by
 unfold loadT at h
 split at h
 ·simp [Tr.AP] at h
 ·rename_i i hi
  unfold Jf
  rw [hi]
  simp only
  split at h
  ·rename_i et xs j off
   simp only [Tr.AP,LY] at h
   obtain⟨x,hx,hp⟩:=h
   simp only [AO,Lh,List.getElem?_map,hx,Option.map_some]
   rw [hU.cells,Qq,hp]
   rfl
  ·rename_i id j off tot
   split at h
   ·rename_i e n x hb
    simp only [D6,LY] at h
    obtain⟨⟨rfl,rfl,hok⟩,hp⟩:=h
    simp only [AO,nO hb,BH,Lh,List.getElem?_cons_zero]
    rw [Ov hok,Qq,hp]
    rfl
   ·rename_i et xs fl hb
    simp only [Tr.AP,LY,beq_iff_eq] at h
    obtain⟨hl,x,hx,hp⟩:=h
    simp only [AO,Z2d hb hl,BM,Lh,List.getElem?_map,hx,Option.map_some]
    rw [hU.cells,Qq,hp]
    rfl
   ·simp [Tr.AP] at h
  ·rename_i e z
   simp only [LY] at h
   simp only [AO,Lh,List.getElem?_cons_zero]
   rw [show (V.lit z).cells=A7 U [SV.lit z] from rfl,Qq,h]
   rfl
  ·rename_i e cs off
   simp only [LY] at h
   cases hp:partOf cs off i.size i.isAgg with
   | none=>simp [hp] at h
   | some v=>
    simp only [hp,Option.map_some,Option.some.injEq] at h
    subst h
    simp only [AO,Lh,List.getElem?_cons_zero,V.cells,hp,RD]
  ·rename_i d cs off
   split at h
   ·rename_i ys hys
    simp only [D6,Tr.AP] at h
    obtain⟨⟨h1,h2,h3⟩,x,hx,rfl⟩:=h
    simp only [AO,Lh,List.getElem?_cons_zero,V.cells,partOf,h2,Zlh hU hys h3 hx,Bool.false_eq_true,if_false]
   ·simp [Tr.AP] at h
  ·simp [Tr.AP] at h
theorem ZeI {E:Env} (hU:CG U E) {H H' : Ad U} {t:TypeId} {a v:SV U.Ty} (h:(storeT E H t a v).AP H'):JZ E (Aj U H) t (AO U a) (AO U v)=some (Aj U H'):=by
 unfold storeT at h
 split at h
 ·simp [Tr.AP] at h
 ·rename_i i hi
  unfold JZ
  rw [hi]
  simp only
  split at h
  ·rename_i id j off tot
   split at h
   ·rename_i e n x hb
    simp only [D6] at h
    obtain⟨⟨⟨rfl,rfl⟩,hl,hok,hokx⟩,h⟩:=h
    split at h
    ·rename_i x' hx'
     simp only [D6,Tr.AP] at h
     obtain⟨hok',rfl⟩:=h
     simp only [AO,nO hb,BH,List.getElem?_cons_zero]
     rw [Ov hok,Hg,hl,Z16 hx',NJ hok]
     simp [NJ hok',NS,BM,BH]
    ·simp [Tr.AP] at h
   ·rename_i et xs fl hb
    simp only [D6,Tr.AP,DC,Bool.and_eq_true,beq_iff_eq,decide_eq_true_eq] at h
    obtain⟨⟨hl,hok,hni⟩,⟨hlen,hfl⟩,x,hx,v',hv',h⟩:=h
    split at h
    ·rename_i x' hx'
     split at h
     ·rename_i y hy
      simp only [D6,Tr.AP] at h
      obtain⟨⟨hok1,hok2⟩,rfl⟩:=h
      simp only [AO,Z2d hb hlen,BM,List.getElem?_map,hx,Option.map_some]
      rw [Ov hok,Hg,hl,NJ hok]
      have hc:(Fp (Aj U H) (AO U v))=some (AO U v'):=Xg hv'
      have hsp:=Z16 hx'
      rw [hU.encS] at hsp
      have hdec:=hU.dec et x' y hy
      have hokr:okV (U.enc et y)=true:=by rw [<- hdec,XW];exact NJ hok2
      rw [hc]
      simp only [Ov hok1,hsp,Option.map_some,hdec,hokr,NJ hok1,oO,hni,beq_self_eq_true,Bool.and_self,Bool.and_true,decide_eq_true hfl,if_true,Bool.not_true,Bool.or_self,Bool.false_eq_true,if_false]
      rw [NS,Qs H _ (Z2r hv')]
      simp [BM,List.map_set]
     ·simp [Tr.AP] at h
    ·simp [Tr.AP] at h
   ·simp [Tr.AP] at h
  ·simp [Tr.AP] at h
end
section
variable {U:CE}
theorem JB {x:SV U.Ty} {k:IntKind} {a:Int} (h:asInt x=some (k,a)):AO U x = .lit (.int k a):=by
 unfold asInt at h
 split at h<;>simp_all [AO]
theorem Md {x:SV U.Ty} {s:ByteArray} (h:IY x=some s):AO U x = .lit (.string s):=by
 unfold IY at h
 split at h<;>simp_all [AO]
theorem Ot {x:SV U.Ty} {b:Bool} (h:asBool x=some b):AO U x = .lit (.bool b):=by
 unfold asBool at h
 split at h<;>simp_all [AO]
theorem Z21 {x:SV U.Ty} {n:Int} {l:Bool} (h:Y8 x=some (n,l)):∃k,AO U x = .lit (.int k n):=by
 unfold Y8 at h
 split at h<;>simp_all [AO]
theorem Zhd {op:BinOp} {k:IntKind} {a b:Int} {l:Bool} {y:SV U.Ty} (h:(tZ op k a b l).AP y):(Lr op k a b).map V.lit=some (AO U y):=by
 unfold tZ at h
 cases op<;>simp only [Tr.AP] at h<;>(try (subst h;rfl))<;>(try (exact h.elim))
 ·split at h
  ·split at h
   ·simp [Tr.AP] at h
   ·rename_i hb
    simp only [Tr.AP] at h
    subst h
    simp [Lr,hb,AO]
  ·simp only [Tr.AP,bne_iff_ne,ne_eq] at h
   obtain⟨hb,rfl⟩:=h
   simp [Lr,hb,AO]
 ·split at h
  ·split at h
   ·simp [Tr.AP] at h
   ·rename_i hb
    simp only [Tr.AP] at h
    subst h
    simp [Lr,hb,AO]
  ·simp only [Tr.AP,bne_iff_ne,ne_eq] at h
   obtain⟨hb,rfl⟩:=h
   simp [Lr,hb,AO]
theorem Z2f {op:BinOp} {k:IntKind} {a b:Int} {l:Bool} {y:SV U.Ty} (h:(Xx op k a b l).AP y):(NP op k a b).map V.lit=some (AO U y):=by
 unfold Xx at h
 split at h
 ·simp [Tr.AP] at h
 ·rename_i r hr
  have key:∀(hb:¬b<0) (hy:SV.si k r=y),(NP op k a b).map V.lit=some (AO U y):=by
   intro hb hy
   subst hy
   unfold NP
   unfold Z48 at hr
   split at hr<;>simp_all [AO]
  split at h
  ·split at h
   ·simp [Tr.AP] at h
   ·rename_i hb
    exact key hb h
  ·simp only [Tr.AP,decide_eq_true_eq] at h
   simp_all
theorem Zh1 {op:BinOp} {x y:ByteArray} {z:SV U.Ty} (h:(tX op x y).AP z):(Rj op x y).map V.lit=some (AO U z):=by
 unfold tX at h
 cases op<;>simp only [Tr.AP] at h<;>(try (subst h;rfl))<;>(try (exact h.elim))
 obtain⟨hb,rfl⟩:=h
 simp only [decide_eq_true_eq] at hb
 simp [Rj,hb,AO]
theorem Zbg:∀{ks:List FK} {xs ys:List (SV U.Ty)} {r:Bool},KN ks xs ys=some r->Hm ks (A7 U xs) (A7 U ys)=some r:=by
 intro ks
 induction ks with
 | nil=>
  intro xs ys r h
  unfold KN at h
  split at h<;>simp_all [A7,Hm]
 | cons k ks ih=>
  intro xs ys r h
  cases xs with
  | nil=>cases k<;>simp [KN] at h
  | cons x xs=>
   cases ys with
   | nil=>cases k<;>simp [KN] at h
   | cons y ys=>
    cases k with
    | b=>
     simp only [KN] at h
     split at h
     ·rename_i a b r' h1 h2 h3
      simp only [Option.some.injEq] at h
      subst h
      simp only [A7,Ot h1,Ot h2,Hm,ih h3]
     ·cases h
    | i k=>
     simp only [KN] at h
     split at h
     ·rename_i k1 a k2 b r' h1 h2 h3
      split at h
      ·rename_i hk
       simp only [Option.some.injEq] at h
       subst h
       simp only [A7,JB h1,JB h2,Hm,ih h3,hk,and_self,if_true]
      ·cases h
     ·cases h
    | s=>
     simp only [KN] at h
     split at h
     ·rename_i a b r' h1 h2 h3
      simp only [Option.some.injEq] at h
      subst h
      simp only [A7,Md h1,Md h2,Hm,ih h3]
     ·cases h
theorem ZjB {E:Env} {op:BinOp} {t:TypeId} {x y z:SV U.Ty} (h:(uG E op t x y).AP z):Ju E op t (AO U x) (AO U y)=some (AO U z):=by
 unfold uG at h
 split at h
 ·rename_i xs ys
  split at h
  ·rename_i ks hks
   split at h
   ·rename_i b hb
    have:=Zbg hb
    split at h
    ·simp only [Tr.AP] at h
     subst h
     simp only [AO,Ju,hks,this,Option.map_some]
    ·simp only [Tr.AP] at h
     subst h
     simp only [AO,Ju,hks,this,Option.map_some]
    ·simp [Tr.AP] at h
   ·simp [Tr.AP] at h
  ·simp [Tr.AP] at h
 ·split at h
  ·rename_i k a j b ha hb
   rw [JB ha,JB hb]
   split at h
   ·exact Z2f h
   ·exact Z2f h
   ·rename_i h1 h2
    split at h
    ·rename_i hk
     have hi:=Zhd h
     subst hk
     have hb:Ju E op t (.lit (.int k a)) (.lit (.int k b))=(Lr op k a b).map V.lit:=by
      cases op<;>first|exact absurd rfl h1|exact absurd rfl h2|simp [Ju]
     simp_all
    ·simp [Tr.AP] at h
  ·split at h
   ·rename_i a b ha hb
    rw [Md ha,Md hb]
    have:=Zh1 h
    unfold Ju
    split<;>simp_all
   ·split at h
    ·rename_i a b ha hb
     rw [Ot ha,Ot hb]
     split at h
     ·rename_i hE
      split at h
      ·simp only [Tr.AP] at h
       subst h
       simp [Ju,hE,AO]
      ·simp only [Tr.AP] at h
       subst h
       simp [Ju,hE,AO]
      ·simp [Tr.AP] at h
     ·simp [Tr.AP] at h
    ·simp [Tr.AP] at h
theorem ZjS {op:UnOp} {x z:SV U.Ty} (h:(unT op x).AP z):VZ op (AO U x)=some (AO U z):=by
 unfold unT at h
 split at h
 ·rename_i k n hk
  simp only [Tr.AP] at h
  subst h
  rw [JB hk]
  rfl
 ·rename_i k n hk
  simp only [Tr.AP] at h
  subst h
  rw [JB hk]
  rfl
 ·rename_i b _ hb
  simp only [Tr.AP] at h
  subst h
  rw [Ot hb]
  rfl
 ·simp [Tr.AP] at h
theorem Zlm {isMax:Bool} {k:IntKind}:∀{xs:List (SV U.Ty)} {a r:Int},V6 isMax k a xs=some r->mm isMax k a (A7 U xs)=some (.lit (.int k r)):=by
 intro xs
 induction xs with
 | nil=>intro a r h;simp only [V6,Option.some.injEq] at h;subst h;rfl
 | cons x xs ih=>
  intro a r h
  simp only [V6] at h
  split at h
  ·rename_i j b hj
   split at h
   ·rename_i hk
    simp only [A7,JB hj,mm,hk,if_true]
    exact hk▸ih h
   ·cases h
  ·cases h
theorem Z1j {isMax:Bool} {xs:List (SV U.Ty)} {z:SV U.Ty} (h:(Xk isMax xs).AP z):NU isMax (A7 U xs)=some (AO U z):=by
 unfold Xk at h
 split at h
 ·rename_i x rest
  split at h
  ·rename_i k a hk
   split at h
   ·rename_i r hr
    simp only [Tr.AP] at h
    subst h
    simp only [A7,JB hk,NU,AO]
    exact Zlm hr
   ·simp [Tr.AP] at h
  ·simp [Tr.AP] at h
 ·simp [Tr.AP] at h
def J3 (parts:List (Nat×SV U.Ty)):List (Nat×V):=parts.map fun(i,x)=>(i,AO U x)
theorem Z2z {place:Nat->Option (Nat×Nat)}:∀{parts:List (Nat×SV U.Ty)} {cs cs' : List (SV U.Ty)},OY cs parts place=some cs' -> MF (A7 U cs) (J3 parts) place=some (A7 U cs'):=by
 intro parts
 induction parts with
 | nil=>intro cs cs' h;simp only [OY,Option.some.injEq] at h;subst h;rfl
 | cons p parts ih=>
  intro cs cs' h
  obtain⟨i,v⟩:=p
  simp only [OY] at h
  split at h
  ·cases h
  ·rename_i off size hp
   split at h
   ·rename_i hc
    simp only [Bool.and_eq_true,beq_iff_eq,decide_eq_true_eq] at hc
    obtain⟨⟨h1,h2⟩,h3⟩:=hc
    have:=ih h
    simp only [J3,List.map_cons,MF,hp]
    rw [Ov h3,Hg,h1,Hg,NJ h3]
    simp only [beq_self_eq_true,h2,decide_true,Bool.and_self,if_true]
    rw [<- this]
    simp only [J3,Dl,List.map_append,List.map_take,List.map_drop]
   ·cases h
theorem cells_toV' {x:SV U.Ty} (h:∀cs,x≠.raw (.agg cs)):(AO U x).cells=A7 U (cellsS x):=by
 cases x with
 | raw v=>
  cases v with
  | agg cs=>exact absurd rfl (h cs)
  | _=>rfl
 | _=>rfl
theorem Z1Q {z:V}:A7 U (cellsS (I7 U z))=z.cells:=by
 have hr:∀cs,I7 U z≠.raw (.agg cs):=by
  intro cs hcs
  unfold I7 at hcs
  split at hcs
  ·cases hcs
  ·rename_i hne
   unfold O7 at hcs
   split at hcs<;>(try cases hcs)
   simp at hne
 rw [<- cells_toV' hr,RD]
theorem ZeU {E:Env} {t:TypeId} {parts:List (Nat×SV U.Ty)} {y:SV U.Ty} (h:rF E t parts=some y):Rh E t (J3 parts)=some (AO U y):=by
 unfold rF at h
 unfold Rh
 split at h
 ·rename_i i hi
  rw [hi]
  split at h
  ·rename_i z hz
   simp only [hz]
   split at h
   ·rename_i hok
    rw [if_pos hok]
    split at h
    ·rename_i fs hty
     simp only [hty]
     split at h
     ·rename_i hall
      rw [if_pos hall]
      cases hf:OY (cellsS (I7 U z)) parts (placesOf E fs) with
      | none=>simp [hf] at h
      | some cs=>
       simp only [hf,Option.map_some,Option.some.injEq] at h
       subst h
       have:=Z2z hf
       rw [Z1Q] at this
       simp only [this,Option.map_some,AO]
     ·cases h
    ·rename_i len e hty
     simp only [hty]
     split at h
     ·rename_i ei hei
      simp only [hei]
      cases hf:OY (cellsS (I7 U z)) parts (fun i=>some (i*ei.size,ei.size)) with
      | none=>simp [hf] at h
      | some cs=>
       simp only [hf,Option.map_some,Option.some.injEq] at h
       subst h
       have:=Z2z hf
       rw [Z1Q] at this
       simp only [this,Option.map_some,AO]
     ·cases h
    ·cases h
   ·cases h
  ·cases h
 ·cases h
theorem ZcK (sz:Nat):∀(vs pre post:List V),(∀v∈vs,v.cells.length=sz/\okV v=true)->vs.length<=post.length ->
  Jo (pre++post) sz ((List.range' pre.length vs.length).zip vs)=some (pre++vs++post.drop vs.length):=by
 intro vs
 induction vs with
 | nil=>intro pre post _ _;simp [Jo]
 | cons v vs ih=>
  intro pre post h hl
  cases post with
  | nil=>simp at hl
  | cons p post=>
   simp only [List.length_cons,List.range'_succ,List.zip_cons_cons,Jo]
   obtain⟨h1,h2⟩:=h v (by simp)
   have hset:(pre++p::post).set pre.length v=(pre++[v])++post:=by simp
   have:=ih (pre++[v]) post (fun x hx=>h x (by simp [hx])) (by simpa using hl)
   rw [List.length_append,List.length_singleton] at this
   rw [h1,h2,hset,this]
   simp
theorem Z8z {E:Env} (hU:CG U E) {k:Nat} {H H' : Ad U} {t:TypeId} {n:Nat} {parts:List (Nat×SV U.Ty)} {y:SV U.Ty} (h:(jW E k H t n parts).AP (y,H')) :
  MV E k (Aj U H) t n (J3 parts)=some (AO U y,Aj U H'):=by
 unfold jW at h
 unfold MV
 split at h
 ·rename_i e sz by' z0 hti
  rw [hti]
  simp only
  split at h
  ·rename_i ei hei
   simp only [hei]
   split at h
   ·rename_i z hz
    simp only [DC] at h
    obtain⟨vs,hvs,h⟩:=h
    split at h
    ·rename_i ys hys
     simp only [D6,Tr.AP,Prod.mk.injEq] at h
     obtain⟨⟨⟨c1,c2,c3,c4⟩,c5,c6,c7⟩,rfl,rfl⟩:=h
     have hp2:(J3 parts).map (·.2)=A7 U (parts.map (·.2)):=by
      rw [Dl];simp [J3]
     have hp1:(J3 parts).map (·.1)=List.range n:=by rw [<- c5];simp [J3]
     obtain⟨d1,d2⟩:=mQ hU hys
     have hf:=lV hvs
     have hlen:(A7 U vs).length=n:=by
      rw [<- Z9n hf,Hg,List.length_map,<- List.length_map (f:=(·.1)) (as:=parts),c5,List.length_range]
     have hlen' : (ys.map (U.enc e)).length=n:=by rw [<- d1,List.length_map,hlen]
     have hempty:(n==0 && !(J3 parts).isEmpty)=false:=by
      cases hn:n with
      | zero=>
       simp_all
      | succ m=>simp
     rw [hz,hp2,hf]
     simp only
     rw [if_pos ⟨c1,c2,c3,c4,hempty⟩,hp1,d1]
     have hfull:=ZcK ei.size (ys.map (U.enc e)) [] (List.replicate n (DJ (E.rows e) z)) (by
      intro v hv
      rw [<- d1] at hv
      obtain⟨w,hw,rfl⟩:=List.mem_map.1 hv
      rw [Dl] at hw
      obtain⟨s,hs,rfl⟩:=List.mem_map.1 hw
      have hok:=d2 s hs
      rw [XW,ZdP]
      refine⟨?_,NJ hok⟩
      rw [Ov hok,Hg]
      simpa using List.all_eq_true.1 c6 s hs) (by rw [hlen'];simp)
     rw [hlen'] at hfull
     simp only [List.length_nil,List.nil_append] at hfull
     rw [show List.range n=List.range' 0 n from List.range_eq_range' ..,hfull]
     have hdrop:List.drop n (List.replicate n (DJ (E.rows e) z))=[]:=by simp
     rw [hdrop,List.append_nil,OD,mF,Qs H _ (Z0f hvs)]
     simp [AO,BM,BH,c7]
    ·simp [Tr.AP] at h
   ·simp [Tr.AP] at h
  ·simp [Tr.AP] at h
 ·simp [Tr.AP] at h
theorem Z9g {E:Env} {s:TypeId} {x y:SV U.Ty} {f:Nat} (h:kR E s x f=some y):Qe E s (AO U x) f=some (AO U y):=by
 unfold kR at h
 unfold Qe
 split at h
 ·rename_i fs sz by' z0 hti
  rw [hti]
  simp only
  split at h
  ·rename_i o t ho
   rw [ho]
   simp only
   split at h
   ·rename_i n hn
    simp only [hn]
    split at h
    ·cases h
    ·rename_i hz
     rw [if_neg hz]
     split at h
     ·simp only [Option.some.injEq] at h;subst h;rfl
     ·simp only [Option.some.injEq] at h;subst h;rfl
     ·simp only [Option.some.injEq] at h;subst h;rfl
     ·cases h
   ·cases h
  ·cases h
 ·cases h
theorem ZeC {E:Env} {s:TypeId} {x y:SV U.Ty} {f:Nat} (h:qP E s x f=some y):RN E s (AO U x) f=some (AO U y):=by
 unfold qP at h
 unfold RN
 split at h
 ·rename_i fs sz by' z0 cs hti
  rw [hti]
  simp only [AO]
  split at h
  ·rename_i o t ho
   rw [ho]
   simp only
   split at h
   ·rename_i i hi
    simp only [hi,Qq,h,Option.map_some]
   ·cases h
  ·cases h
 ·cases h
theorem Td {L:Type} {n:Int} {lit:Bool} {len:Nat} {k:Nat->Tr U L} {y:L} (h:(PM n lit len k).AP y):(0<=n/\n<len)/\(k n.toNat).AP y:=by
 unfold PM at h
 split at h
 ·split at h
  ·simp_all
  ·simp [Tr.AP] at h
 ·revert h
  suffices hh:∀l:List Nat,(∀i∈l,i<len)->(l.foldr (fun(i:Nat) rest=>Tr.br (n==(i:Int)) (k i) rest) .fail).AP y->(0<=n/\n<len)/\(k n.toNat).AP y from
   fun h=>hh _ (fun i hi=>by simpa using hi) h
  intro l
  induction l with
  | nil=>intro _ h;simp [Tr.AP] at h
  | cons i l ih=>
   intro hl h
   simp only [List.foldr_cons,Tr.AP,beq_iff_eq] at h
   rcases h with ⟨hn,hr⟩|⟨_,hr⟩
   ·simp_all
   simp_all
theorem Z92 {E:Env} {H:Ad U} {t:TypeId} {x i y:SV U.Ty} (h:(lU E H t x i).AP y):MX E (Aj U H) t (AO U x) (AO U i)=some (AO U y):=by
 unfold lU at h
 unfold MX
 split at h
 ·rename_i kk n ti hn hti
  rw [JB hn,hti]
  simp only
  split at h
  ·rename_i el hty
   simp only [hty]
   split at h
   ·rename_i et xs
    simp only [D6,Tr.AP,decide_eq_true_eq] at h
    obtain⟨h1,h2,rfl⟩:=h
    simp only [AO,List.length_map,h2,h1,and_self,if_true]
   ·rename_i et xs
    simp only [D6,Tr.AP,decide_eq_true_eq] at h
    obtain⟨h1,h2,rfl⟩:=h
    simp only [AO,List.length_map,h2,h1,and_self,if_true]
   ·rename_i id m
    obtain⟨et,xs,fl,r1,r2,r3,r4⟩:=FX h
    simp only [D6,Tr.AP,decide_eq_true_eq] at r3
    obtain⟨h1,h2,rfl⟩:=r3
    simp only [AO,r4,BM,h2,h1,and_self,if_true,Nat.zero_add]
   ·rename_i id off len tot
    obtain⟨et,xs,fl,r1,r2,r3,r4⟩:=FX h
    simp only [D6,Tr.AP,decide_eq_true_eq] at r3
    obtain⟨h1,h2,rfl⟩:=r3
    simp only [AO,r4,BM,h2,h1,and_self,if_true]
   ·simp [Tr.AP] at h
  ·rename_i len e hty
   simp only [hty]
   split at h
   ·simp [Tr.AP] at h
   ·rename_i sz hsz
    split at h
    ·obtain⟨hb,h⟩:=Td h
     simp only [Tr.AP] at h
     subst h
     simp only [AO,hsz,hb,and_self,if_true]
    ·obtain⟨hb,h⟩:=Td h
     simp only [Tr.AP] at h
     subst h
     simp only [AO,hsz,hb,and_self,if_true]
    ·split at h
     ·rename_i hc
      simp only [Bool.and_eq_true,decide_eq_true_eq] at hc
      simp only [Tr.AP,decide_eq_true_eq] at h
      obtain⟨hb,rfl⟩:=h
      simp only [AO,hsz,hb,and_self,if_true,hc.1,Nat.mul_one,Nat.zero_add]
     ·obtain⟨hb,h⟩:=Td h
      simp only [Tr.AP] at h
      subst h
      simp only [AO,hsz,hb,and_self,if_true]
    ·obtain⟨hb,h⟩:=Td h
     simp only [Tr.AP] at h
     subst h
     simp only [AO,hsz,hb,and_self,if_true]
    ·simp [Tr.AP] at h
  ·simp [Tr.AP] at h
 ·simp [Tr.AP] at h
theorem Zgr {s:ByteArray} {n:Nat} (h:n<s.size):s[n]? = some (s.get! n):=by
 rw [getElem?_pos s n h]
 cases s with
 | mk d=>
  have hd:n<d.size:=h
  show some d[n]=some d[n]!
  simp_all
theorem ZeX {E:Env} {t:TypeId} {x i y:SV U.Ty} (h:(rM E t x i).AP y):RH E t (AO U x) (AO U i)=some (AO U y):=by
 unfold rM at h
 unfold RH
 split at h
 ·rename_i kk n hn
  rw [JB hn]
  simp only
  split at h
  ·rename_i len e sz by' z0 cs hti
   rw [hti]
   simp only [AO]
   split at h
   ·rename_i ei hei
    obtain⟨hb,h⟩:=Td h
    rw [LY] at h
    simp only [hei,hb,and_self,if_true,Qq,h,Option.map_some]
   ·simp [Tr.AP] at h
  ·rename_i sz by' z0 hti
   rw [hti]
   split at h
   ·rename_i s hs
    rw [Md hs]
    split at h
    ·rename_i hE
     simp only [Tr.AP,decide_eq_true_eq] at h
     obtain⟨⟨h1,h2⟩,rfl⟩:=h
     have hlt:n.toNat<s.size:=by omega
     simp only [hE,h1,if_true,Zgr hlt,Option.map_some,AO]
    ·simp [Tr.AP] at h
   ·simp [Tr.AP] at h
  ·simp [Tr.AP] at h
 ·simp [Tr.AP] at h
theorem XB {t:Nat} {xs:List (U.Ty t)} {y:SV U.Ty} (h:(Rw t xs).AP y) :
  U.AZ t=1/\∃bs,bytesOf (xs.map (U.enc t))=some bs/\bs.length<=maxLen/\y = .ss ⟨bs.toArray⟩:=by
 unfold Rw at h
 simp only [D6,Tr.AP] at h
 obtain⟨h1,h2,h3⟩:=h
 refine⟨h1,?_⟩
 unfold Fe at h2
 unfold strOf at h3
 grind
theorem ZeR {E:Env} {H:Ad U} {src dst:TypeId} {x y:SV U.Ty} (h:(rH E H src dst x).AP y):Gf E (Aj U H) src dst (AO U x)=some (AO U y,Aj U H):=by
 unfold rH at h
 simp only [D6] at h
 obtain⟨hb,h⟩:=h
 simp only [Bool.and_eq_true] at hb
 split at h
 ·simp only [Tr.AP] at h
  subst h
  simp [Gf,AO,hb,Df,elemsOf,bytesOf]
 ·obtain⟨h1,bs,h2,h3,rfl⟩:=XB h
  simp [Gf,AO,hb,Df,elemsOf,h1,h2,h3]
 ·obtain⟨h1,bs,h2,h3,rfl⟩:=XB h
  simp [Gf,AO,hb,Df,elemsOf,h1,h2,h3]
 ·obtain⟨t,xs,fl,h1,h2,h3,h4⟩:=FX h
  obtain⟨h5,bs,h6,h7,rfl⟩:=XB h3
  subst h2
  rename_i id
  have he:elemsOf (Aj U H) (AO U (.all id xs.length))=some (xs.map (U.enc t)):=by
   simp only [AO,elemsOf,h4]
   simp only [BM,Nat.zero_add,Nat.le_refl,decide_true,Bool.and_self,if_true,List.drop_zero,Option.some.injEq]
   exact List.take_of_length_le (by simp)
  simp only [AO] at he
  simp only [Gf,AO,hb,he,Df,h4,BM,h5,Bool.and_self,beq_self_eq_true,if_true,h6,if_pos h7]
 ·obtain⟨t,xs,fl,h1,h2,h3,h4⟩:=FX h
  simp only [Tr.AP,decide_eq_true_eq] at h3
  obtain⟨hle,h3⟩:=h3
  obtain⟨h5,bs,h6,h7,rfl⟩:=XB h3
  rename_i id off len tot
  have he:elemsOf (Aj U H) (AO U (.Az id off len tot))=some ((((xs.drop off).take len)).map (U.enc t)):=by
   simp only [AO,elemsOf,h4]
   simp [BM,hle,List.map_take,List.map_drop]
  simp only [AO] at he
  simp only [Gf,AO,hb,he,Df,h4,BM,h5,Bool.and_self,beq_self_eq_true,if_true,h6,if_pos h7]
 ·simp [Tr.AP] at h
theorem Zg1 {E:Env} {H:Ad U} {src dst:TypeId} {x y:SV U.Ty} (h:(sD E H src dst x).AP y):Gf E (Aj U H) src dst (AO U x)=some (AO U y,Aj U H):=by
 unfold sD at h
 split at h
 ·rename_i k n hn
  rw [JB hn]
  unfold Gf
  split at h
  ·rename_i j hj
   simp only [hj]
   split at h
   ·rename_i hs
    simp only [Tr.AP] at h
    subst h
    simp [hs,AO]
   ·simp [Tr.AP] at h
  ·simp [Tr.AP] at h
 ·split at h
  ·rename_i s hs
   rw [Md hs]
   unfold Gf
   split at h
   ·rename_i hb
    simp only [Tr.AP] at h
    subst h
    simp only [Bool.and_eq_true] at hb
    simp [hb,AO]
   ·simp [Tr.AP] at h
  ·exact ZeR h
end
section
variable {U:CE}
theorem Z2e {H:Ad U} {x:SV U.Ty} {e:Nat} {ys:List (U.Ty e)} (h:(YN H x e).AP ys) :
  elemsOf (Aj U H) (AO U x)=some (ys.map (U.enc e))/\(Df (Aj U H) (AO U x) (U.AZ e)=true):=by
 have go:∀(t:Nat) (xs:List (U.Ty t)),(if h:t=e then Tr.leaf (h▸xs) else Tr.fail:Tr U (List (U.Ty e))).AP ys->∃he:t=e,(he▸xs:List (U.Ty e))=ys:=by
  intro t xs h
  split at h
  ·rename_i he;exact⟨he,h⟩
  ·simp [Tr.AP] at h
 unfold YN at h
 simp only at h
 split at h
 ·simp only [Tr.AP] at h;subst h;exact⟨rfl,rfl⟩
 ·obtain⟨rfl,rfl⟩:=go _ _ h
  exact⟨rfl,by simp [AO,Df]⟩
 ·obtain⟨rfl,rfl⟩:=go _ _ h
  exact⟨rfl,by simp [AO,Df]⟩
 ·obtain⟨t,xs,fl,h1,h2,h3,h4⟩:=FX h
  obtain⟨rfl,rfl⟩:=go _ _ h3
  subst h2
  refine⟨?_,by simp [AO,Df,h4,BM]⟩
  simp only [AO,elemsOf,h4]
  simp only [BM,Nat.zero_add,Nat.le_refl,decide_true,Bool.and_self,if_true,List.drop_zero,Option.some.injEq]
  exact List.take_of_length_le (by simp)
 ·obtain⟨t,xs,fl,h1,h2,h3,h4⟩:=FX h
  simp only [Tr.AP,decide_eq_true_eq] at h3
  obtain⟨hle,h3⟩:=h3
  obtain⟨rfl,rfl⟩:=go _ _ h3
  refine⟨?_,by simp [AO,Df,h4,BM]⟩
  simp only [AO,elemsOf,h4]
  simp [BM,hle,List.map_take,List.map_drop]
 ·simp [Tr.AP] at h
theorem Z2X {L:Type} {kd:IntKind} {n:Int} {lit:Bool} {z:Tr U L} {f:SV U.Ty->Tr U L} {y:L}:∀{kvs:List (SV U.Ty)},(Nb kd n lit z f kvs).AP y ->
  (Jh kd n (A7 U kvs)=some none/\z.AP y)\/∃v,Jh kd n (A7 U kvs)=some (some (AO U v))/\(f v).AP y
 | [],h=>.inl ⟨rfl,h⟩
 | [x],h=>by
  cases x with
  | lit v=>cases v<;>simp [Nb,Tr.AP] at h
  | _=>simp [Nb,Tr.AP] at h
 | x::v::r,h=>by
  have key:∀k a,x = .lit (.int k a)->(Jh kd n (A7 U (x::v::r))=some none/\z.AP y)\/∃u,Jh kd n (A7 U (x::v::r))=some (some (AO U u))/\(f u).AP y:=by
   intro k a hx
   subst hx
   simp only [Nb,D6] at h
   obtain⟨rfl,h⟩:=h
   simp only [A7,AO,Jh,if_true]
   by_cases ha:n=a
   ·subst ha
    simp only [if_true]
    cases lit with
    | true=>
     grind
    | false=>
     simp only [Bool.false_eq_true,if_false,Tr.AP,beq_self_eq_true,true_and] at h
     grind
   ·rw [if_neg ha]
    refine Z2X (lit:=lit) (z:=z) (f:=f) (kvs:=r) ?_
    cases lit with
    | true=>
     simp_all
    | false=>
     have hb:(n==a)=false:=by simpa using ha
     simp only [Bool.false_eq_true,if_false,Tr.AP,hb] at h
     simp_all
  cases x with
  | lit c=>
   cases c with
   | int k a=>exact key k a rfl
   | _=>simp [Nb,Tr.AP] at h
  | _=>simp [Nb,Tr.AP] at h
theorem ZgO {E:Env} {t:TypeId} {ok:Bool} {m x y:SV U.Ty} (h:(rV E t ok m x).AP y):Rl E t ok (AO U m) (AO U x)=some (AO U y):=by
 unfold rV at h
 split at h
 ·rename_i k e sz by' z0 kvs kd n hti hx
  simp only [D6] at h
  obtain⟨hk,h⟩:=h
  rw [JB hx]
  simp only [AO,Rl,hti,hk,if_true]
  rcases Z2X h with ⟨h1,h2⟩|⟨v,h1,h2⟩
  ·rw [h1]
   simp only
   split at h2
   ·rename_i ei hei
    rw [hei]
    simp only
    split at h2
    ·rename_i z hz
     simp only [Tr.AP] at h2
     subst h2
     rw [hz]
     cases ok<;>simp [AO,A7,RD]
    ·simp [Tr.AP] at h2
   ·simp [Tr.AP] at h2
  ·rw [h1]
   simp only [Tr.AP] at h2
   subst h2
   cases ok<;>simp [AO,A7]
 ·simp [Tr.AP] at h
theorem Zf2 (v:SV U.Ty):AO U (sG v)=AO U v:=by cases v<;>rfl
theorem ZcD {E:Env} {k:Nat} {H H' : Ad U} {t u:TypeId} {s x y:SV U.Ty} (h:(pM E k H t u s x).AP (y,H')) :
  Ib E k (Aj U H) t u (AO U s) (AO U x)=some (AO U y,Aj U H'):=by
 unfold pM at h
 unfold Ib
 split at h
 ·rename_i e sz by' z0 hti
  rw [hti]
  simp only
  split at h
  ·rename_i ei hei
   simp only [D6,DC] at h
   obtain⟨⟨rfl,hpos,hz,hes⟩,ys,hys,h⟩:=h
   obtain⟨e1,e2⟩:=Z2e hys
   rw [hes] at e2
   simp only [hei,beq_self_eq_true,e1]
   rw [if_pos (by simp [hpos,e2,hz])]
   split at h
   ·rename_i id n
    obtain⟨t',xs,fl,h1,h2,h3,h4⟩:=FX h
    split at h3
    ·rename_i he
     subst he
     simp only [Tr.AP,Bool.and_eq_true,decide_eq_true_eq,Prod.mk.injEq] at h3
     obtain⟨⟨l1,l2⟩,rfl,rfl⟩:=h3
     subst h2
     simp only [AO,h4,List.length_map]
     simp only [BM,hes,beq_self_eq_true,decide_true,Bool.and_self,if_true,l1,l2,Option.some.injEq,Prod.mk.injEq]
     refine⟨by simp [AO],?_⟩
     rw [NS]
     simp [BM,hes]
    ·simp [Tr.AP] at h3
   ·rename_i id off len tot
    obtain⟨t',xs,fl,h1,h2,h3,h4⟩:=FX h
    split at h3
    ·rename_i he
     subst he
     simp only [Tr.AP,Bool.and_eq_true,decide_eq_true_eq,Prod.mk.injEq] at h3
     obtain⟨⟨l1,l2,l3,l4⟩,rfl,rfl⟩:=h3
     subst h2
     subst l1
     have hne:¬len=xs.length:=by omega
     simp only [AO,h4]
     simp only [BM,hes,beq_self_eq_true,decide_true,Bool.and_self,Bool.and_true,Bool.true_and,hne,decide_false,Bool.and_false,Bool.false_and,Bool.false_eq_true,if_false,l2,l3,l4,List.length_map,if_true,Option.some.injEq,Prod.mk.injEq,true_and]
     rw [NS]
     simp [BM,hes,List.map_take,List.map_drop]
    ·simp [Tr.AP] at h3
   ·simp only [Tr.AP,Bool.and_eq_true,decide_eq_true_eq,Prod.mk.injEq] at h
    obtain⟨⟨l1,l2⟩,rfl,rfl⟩:=h
    simp only [AO,List.length_map,l1,l2,decide_true,Bool.and_self,if_true,Option.some.injEq,Prod.mk.injEq,true_and]
    rw [OD]
    simp [BM,BH,hes]
   ·rename_i t' xs
    split at h
    ·rename_i he
     subst he
     simp only [Tr.AP,Bool.and_eq_true,decide_eq_true_eq,Prod.mk.injEq] at h
     obtain⟨⟨l1,l2⟩,h⟩:=h
     simp only [AO,List.length_map,hes,beq_self_eq_true,l1,l2,decide_true,Bool.and_self,if_true]
     rcases h with ⟨hem,rfl,rfl⟩|⟨hem,rfl,rfl⟩
     ·simp [hem,AO,hes]
     ·simp only [List.isEmpty_map,hem,Bool.false_eq_true,if_false,Option.some.injEq,Prod.mk.injEq]
      refine⟨by simp [AO],?_⟩
      rw [OD]
      simp [BM,BH,hes]
    ·simp [Tr.AP] at h
   ·simp [Tr.AP] at h
  ·simp [Tr.AP] at h
 ·simp [Tr.AP] at h
theorem Zfo {E:Env} (hU:CG U E) {k:Nat} {H H' : Ad U} {dst:TypeId} {x y:SV U.Ty} (h:(qO E k H dst x).AP (y,H')):Jn E k (Aj U H) dst (AO U x)=some (AO U y,Aj U H'):=by
 unfold qO at h
 split at h
 ·rename_i st e sz by' z0 hs hti
  simp only [D6,Tr.AP,Prod.mk.injEq] at h
  obtain⟨⟨h1,h2⟩,hok,rfl,rfl⟩:=h
  have key:∀l:List UInt8,(l.all fun b=>(U.FV e (.si .u8 b.toNat)).isSome)=true->(l.filterMap fun b=>U.FV e (.si .u8 b.toNat)).map (U.enc e)=l.map fun c=>V.lit (.int .u8 c.toNat):=by
   intro l
   induction l with
   | nil=>intro _;rfl
   | cons b l ih=>
    intro hl
    simp only [List.all_cons,Bool.and_eq_true] at hl
    cases hd:U.FV e (.si .u8 b.toNat) with
    | none=>simp_all
    | some a=>
     have:=hU.dec _ _ _ hd
     simp only [AO,DJ,Fb] at this
     simp_all
  have hmap:(JX U e st).map (U.enc e)=bytesV st:=key _ hok
  have hlen:(JX U e st).length=st.size:=by
   have:=congrArg List.length hmap
   rw [List.length_map] at this
   rw [this]
   simp only [bytesV,List.length_map]
   exact Array.length_toList
  rw [Md hs]
  simp only [Jn,hti,h1,if_true,AO,hlen,Option.some.injEq,Prod.mk.injEq,true_and]
  rw [OD]
  simp [BM,BH,h2,hmap]
 ·simp [Tr.AP] at h
theorem Z2T {x:SV U.Ty} {v:Value} (h:SH x=some v):AO U x = .lit v:=by
 unfold SH at h
 split at h<;>simp_all [AO]
theorem ZfL {E:Env} {L:Type} (hU:CG U E) {t:Nat} {xs:List (U.Ty t)} {r:L}:∀{n i:Nat} {k:List Value->Tr U L},(YY xs i n k).AP r->∃vs,((xs.drop i).take n).map (U.enc t)=vs.map V.lit/\vs.length=n/\(k vs).AP r:=by
 intro n
 induction n with
 | zero=>intro i k h;exact⟨[],by simp,rfl,h⟩
 | succ n ih=>
  intro i k h
  simp only [YY,Tr.AP] at h
  obtain⟨x,hx,h⟩:=h
  split at h
  ·rename_i v hv
   obtain⟨vs,h1,h2,h3⟩:=ih h
   obtain⟨hi,hx'⟩:=List.getElem?_eq_some_iff.1 hx
   refine⟨v::vs,?_,by simp [h2],h3⟩
   rw [List.drop_eq_getElem_cons hi,List.take_succ_cons,List.map_cons,List.map_cons,h1,hx',<- hU.encS,Z2T hv]
  ·simp [Tr.AP] at h
theorem ZhR {E:Env} (hU:CG U E) {t:TypeId} {x y:SV U.Ty} (h:(uJ E t x).AP y):SS E t (AO U x)=some (AO U y):=by
 unfold uJ at h
 split at h
 ·rename_i n e sz by' z0 t' xs hti
  simp only [D6] at h
  obtain⟨⟨c1,c2,c3⟩,h⟩:=h
  obtain⟨vs,h1,h2,h3⟩:=ZfL hU h
  simp only [Tr.AP] at h3
  subst h3
  rw [List.drop_zero] at h1
  unfold SS
  have hlen:n<=xs.length:=by
   have:=congrArg List.length h1
   simp only [List.length_map,List.length_take] at this
   omega
  have htk:(xs.map (U.enc t')).take n=vs.map V.lit:=by rw [<- List.map_take,h1]
  have hall:(vs.map V.lit).all HY=true:=by simp [List.all_eq_true,HY]
  simp only [hti,AO,c1,c2,c3,htk,List.length_map,hlen,hall,and_self,if_true]
 ·simp [Tr.AP] at h
theorem Zav {hi:Option (SV U.Ty)} {n m:Nat} (h:mD hi n=some m):G7 (hi.map (AO U)) n n=some m:=by
 unfold mD at h
 split at h
 ·simpa [G7] using h
 ·simpa [G7,Gz,AO] using h
 ·cases h
theorem Zcl {E:Env} (hU:CG U E) {H H' : Ad U} {n e:Nat} {x y:SV U.Ty} {lo hi mx:Option (SV U.Ty)} (h:(pG E H n e x lo hi mx).AP (y,H')) :
  Ll E (Aj U H) n e (AO U x) (lo.map (AO U)) (hi.map (AO U)) (mx.map (AO U))=some (AO U y,Aj U H'):=by
 unfold pG at h
 split at h
 ·rename_i id i off tot m hm
  split at h
  ·rename_i e' k cs hb
   split at h
   ·rename_i ys hys
    simp only [D6,Tr.AP,Prod.mk.injEq] at h
    obtain⟨⟨⟨rfl,rfl,rfl,c4,c5⟩,c6,c7,c8⟩,rfl,rfl⟩:=h
    obtain⟨d1,d2⟩:=mQ hU hys
    have hsc:∀c∈cs,∃v,AO U c = .lit v:=fun c hc=>by
     have:=List.all_eq_true.1 c8 c hc
     obtain⟨v,hv⟩:=Option.isSome_iff_exists.1 this
     exact⟨v,Z2T hv⟩
    have hre:(A7 U cs).map (DJ (E.rows e))=A7 U cs:=by
     rw [Dl,List.map_map]
     apply List.map_congr_left
     intro c hc
     obtain⟨v,hv⟩:=hsc c hc
     simp only [Function.comp,hv,DJ,Fb]
    rw [hre] at d1
    have hall:(A7 U cs).all HY=true:=by
     rw [Dl,List.all_eq_true]
     intro y hy
     obtain⟨c,hc,rfl⟩:=List.mem_map.1 hy
     obtain⟨v,hv⟩:=hsc c hc
     rw [hv];rfl
    have hlen:(A7 U cs).length=n:=by rw [Dl,List.length_map,c4]
    have hbx:=nO hb
    unfold Ll
    simp only [AO,Option.map_none,Zav hm,hbx,BH]
    rw [if_pos ⟨trivial,trivial,hlen,c5,c6,hall⟩]
    simp only [Option.some.injEq,Prod.mk.injEq,c7,List.map_take,d1,true_and]
    rw [NS]
    simp only [bump]
    apply List.ext_getElem?
    intro j
    rw [List.getElem?_modify,List.getElem?_set]
    by_cases hj:id=j
    ·subst hj
     have hlt:id<H.length:=(List.getElem?_eq_some_iff.1 hb).1
     rw [JF,hb]
     simp [BM,BH,AO,OA,hlt]
    ·simp [hj]
   ·simp [Tr.AP] at h
  ·simp [Tr.AP] at h
 ·simp [Tr.AP] at h
theorem ZgJ {E:Env} {H H' : Ad U} {t u:TypeId} {d x y:SV U.Ty} (h:(sV E H t u d x).AP (y,H')) :
  Uy E (Aj U H) t u (AO U d) (AO U x)=some (AO U y,Aj U H'):=by
 unfold sV at h
 unfold Uy
 split at h
 ·rename_i e sz by' z0 hti
  rw [hti]
  simp only
  split at h
  ·rename_i ei hei
   simp only [D6,DC] at h
   obtain⟨hes,ys,hys,h⟩:=h
   obtain⟨e1,e2⟩:=Z2e hys
   rw [hes] at e2
   simp only [hei,e1]
   split at h
   ·rename_i id n
    obtain⟨t',xs,fl,h1,h2,h3,h4⟩:=FX h
    split at h3
    ·rename_i he
     subst he
     simp only [D6,Tr.AP,Prod.mk.injEq] at h3
     obtain⟨hfl,rfl,rfl⟩:=h3
     subst h2
     simp only [AO,h4]
     simp only [BM,hes,hfl,beq_self_eq_true,decide_true,Bool.and_self,e2,if_true,Option.some.injEq,Prod.mk.injEq,List.length_map]
     refine⟨by simp [AO],?_⟩
     rw [NS]
     simp [BM,hes,hfl,List.map_take,List.map_drop]
    ·simp [Tr.AP] at h3
   ·simp [Tr.AP] at h
  ·simp [Tr.AP] at h
 ·simp [Tr.AP] at h
theorem Z2u {L:Type} {H:Ad U} {x:SV U.Ty} {k:Nat->Tr U L} {y:L} (h:(Kv H x k).AP y):∃n,lenOf (Aj U H) (AO U x)=some n/\(k n).AP y:=by
 unfold Kv at h
 split at h
 ·rename_i id n
  obtain⟨t,xs,fl,h1,h2,h3,h4⟩:=FX h
  exact⟨n,by simp [AO,lenOf,h4],h3⟩
 ·rename_i id off len tot
  obtain⟨t,xs,fl,h1,h2,h3,h4⟩:=FX h
  exact⟨len,by simp [AO,lenOf,h4],h3⟩
 ·split at h
  ·rename_i n hn
   refine⟨n,?_,h⟩
   unfold uI at hn
   split at hn<;>simp_all [AO,lenOf]
  ·simp [Tr.AP] at h
theorem nN {L:Type} {H:Ad U} {x:SV U.Ty} {k:Nat->Tr U L} {y:L} (h:(Kv H x k).AP y):∀v,x≠.raw v:=by
 rintro v rfl
 simp [Kv,uI,Tr.AP] at h
theorem Z3M {x:SV U.Ty} (hx:∀v,x≠.raw v) (h:PY x=false):∀s,AO U x≠.lit (.string s):=by
 intro s hs
 unfold PY at h
 cases x with
 | raw v=>exact hx v rfl
 | lit v=>simp only [AO,V.lit.injEq] at hs;subst hs;simp [IY] at h
 | ss b=>simp [IY] at h
 | _=>simp [AO] at hs
theorem Z3x {x:SV U.Ty} (h:PY x=true):∃s,IY x=some s/\AO U x = .lit (.string s):=by
 unfold PY at h
 cases hs:IY x with
 | none=>simp [hs] at h
 | some s=>exact⟨s,rfl,Md hs⟩
theorem Zd5 {E:Env} {t:TypeId} {x:SV U.Ty} (hx:∀v,x≠.raw v):Xh E t (AO U x)=oG E t x:=by
 unfold Xh oG
 by_cases hs:PY x=true
 ·obtain⟨s,_,h⟩:=Z3x hs
  rw [h,if_pos hs]
 ·rw [if_neg hs]
  have:=Z3M hx (by simpa using hs)
  grind
theorem ZeF {E:Env} {H:Ad U} {x:SV U.Ty} {n:Nat} {L:Type} {k:Nat->Tr U L} {y:L} (hl:(Kv H x k).AP y) (h:rJ E H x n=true):Df (Aj U H) (AO U x) n=true:=by
 unfold rJ at h
 split at h
 ·simp [AO,Df]
 ·simpa [AO,Df] using h
 ·simpa [AO,Df] using h
 ·rename_i id m
  unfold Kv at hl
  obtain⟨t,xs,fl,h1,h2,h3,h4⟩:=FX hl
  simp only [h1] at h
  simpa [AO,Df,h4,BM] using h
 ·rename_i id off len tot
  unfold Kv at hl
  obtain⟨t,xs,fl,h1,h2,h3,h4⟩:=FX hl
  simp only [h1] at h
  simpa [AO,Df,h4,BM] using h
 ·cases h
theorem Z9U {E:Env} {H:Ad U} {t:TypeId} {x:SV U.Ty} {L:Type} {k:Nat->Tr U L} {y:L} (hl:(Kv H x k).AP y) (h:kV E H t x=true):NC E (Aj U H) t (AO U x)=true:=by
 have hx:=nN hl
 unfold kV at h
 unfold NC
 split at h
 ·rename_i hs
  obtain⟨s,_,he⟩:=Z3x hs
  rw [he]
  exact h
 ·rename_i hs
  have hno:=Z3M hx (by simpa using hs)
  split
  ·simp_all
  ·split at h
   ·rename_i e _ _ _ hti
    split at h
    ·rename_i ei hei
     simp only [hti,hei]
     exact ZeF hl h
    ·cases h
   ·cases h
theorem nK {L:Type} {x:Option (SV U.Ty)} {hi d:Nat} {k:Nat->Tr U L} {y:L} (h:(Ul x hi d k).AP y):∃n,G7 (x.map (AO U)) hi d=some n/\(k n).AP y:=by
 unfold Ul at h
 split at h
 ·exact⟨d,rfl,h⟩
 ·rename_i v
  split at h
  ·rename_i kk n hn
   simp only [Tr.AP,decide_eq_true_eq] at h
   refine⟨n.toNat,?_,h.2⟩
   simp [G7,JB hn,Gz,h.1]
  ·simp [Tr.AP] at h
theorem Zf1 {E:Env} {H H' : Ad U} {t:TypeId} {x y:SV U.Ty} {lo hi mx:Option (SV U.Ty)} (h:(sliceT E H t x lo hi mx).AP (y,H')) :
  IQ E (Aj U H) t (AO U x) (lo.map (AO U)) (hi.map (AO U)) (mx.map (AO U))=some (AO U y,Aj U H'):=by
 unfold sliceT at h
 unfold IQ
 split at h
 ·rename_i hfit
  have hl:=h
  have hraw:=nN hl
  rw [if_pos (Z9U hl hfit)]
  obtain⟨n,hn,ha⟩:=Z2u hl
  rw [hn]
  obtain⟨hh,eh,hb⟩:=nK ha
  obtain⟨l,el,hc⟩:=nK hb
  simp only [eh,el]
  clear h ha hb
  revert hc
  intro h
  split at h
  ·rename_i m
   split at h
   ·simp [Tr.AP] at h
   ·rename_i xh
    obtain⟨kk,ek,hd⟩:=nK h
    clear h
    revert hd
    intro h
    simp only [Tr.AP,beq_iff_eq] at h
    obtain⟨rfl,h⟩:=h
    simp only [Option.map_some,G7] at ek
    simp only [Option.map_some,ek]
    split at h
    ·rename_i e xs
     simp only [Tr.AP,Prod.mk.injEq] at h
     obtain⟨rfl,rfl⟩:=h
     simp [AO,elemsOf,List.map_take,List.map_drop]
    ·rename_i e xs
     simp only [Tr.AP,Prod.mk.injEq] at h
     obtain⟨rfl,rfl⟩:=h
     simp [AO,elemsOf,List.map_take,List.map_drop]
    ·rename_i id n'
     obtain⟨e,xs,fl,h1,h2,h3,h4⟩:=FX h
     simp only [Tr.AP,Prod.mk.injEq] at h3
     obtain⟨rfl,rfl⟩:=h3
     subst h2
     have hg:(Aj U H).getD id default=BM U (.row e xs fl):=by simp [List.getD,JF,h1]
     have hel:elemsOf (Aj U H) (.Az id 0 xs.length xs.length)=some (xs.map (U.enc e)):=by
      simp only [elemsOf,h4]
      simp only [BM,Nat.zero_add,Nat.le_refl,decide_true,Bool.and_self,if_true,List.drop_zero]
      rw [List.take_of_length_le (by simp)]
     simp only [AO,hel,if_true,hg]
     simp only [BM,Option.some.injEq,Prod.mk.injEq]
     refine⟨by simp [List.map_take,List.map_drop],?_⟩
     rw [Qs H [id] (by intro i hi;simp at hi;subst hi;exact⟨_,_,_,h1⟩)]
    ·simp [Tr.AP] at h
  ·simp only [Option.map_none]
   split at h
   ·simp only [Tr.AP,Prod.mk.injEq] at h
    obtain⟨rfl,rfl⟩:=h
    simp [AO]
   ·simp only [Tr.AP,Prod.mk.injEq] at h
    obtain⟨rfl,rfl⟩:=h
    simp [AO,List.map_take,List.map_drop]
   ·simp only [Tr.AP,Prod.mk.injEq] at h
    obtain⟨rfl,rfl⟩:=h
    simp [AO,List.map_take,List.map_drop]
   ·rename_i id n'
    have hnn:n=n' :=by
     unfold Kv at hl
     obtain⟨e,xs,fl,h1,h2,h3,h4⟩:=FX hl
     simpa [AO,lenOf,h4] using hn.symm
    subst hnn
    split at h
    ·simp only [Tr.AP,Prod.mk.injEq] at h
     obtain⟨rfl,rfl⟩:=h
     simp only [Option.map_none,G7,Option.some.injEq] at eh el
     subst eh
     subst el
     simp [AO]
    ·simp only [Tr.AP,Prod.mk.injEq] at h
     obtain⟨rfl,rfl⟩:=h
     simp [AO]
   ·simp only [Tr.AP,Prod.mk.injEq] at h
    obtain⟨rfl,rfl⟩:=h
    simp [AO]
   ·split at h
    ·rename_i s hs
     simp only [Tr.AP,Prod.mk.injEq] at h
     obtain⟨rfl,rfl⟩:=h
     simp [Md hs,AO]
    ·simp [Tr.AP] at h
 ·simp [Tr.AP] at h
def Kr (U:CE) (M:GY U) (call:CS):Prop:=
 ∀g as H v H',(M g as H).AP (v,H')->call g (A7 U as) (Aj U H)=some (AO U v,Aj U H')
theorem Ia {H H' : Ad U} {T:Tr U (SV U.Ty)} {y:SV U.Ty} (h:(IC H T).AP (y,H')):T.AP y/\H' = H:=by
 simp only [IC,DC,Tr.AP,Prod.mk.injEq] at h
 grind
theorem ZfB {E:Env} {M:GY U} {call:CS} (hU:CG U E) (hM:Kr U M call) {k:Nat} {H H' : Ad U} {s:List (SV U.Ty)} {c:Call} {o:Oper} {y:SV U.Ty} (hop:o.op = .call c) (h:(sQ E M k H s c).AP (y,H')) :
  Ak call E k (Aj U H) (A7 U s) o=some (AO U y,Aj U H'):=by
 unfold Ak
 rw [hop]
 simp only
 unfold sQ at h
 have hargs:evs E (A7 U s) c.args=A7 U (c.args.toList.map (Bd E s)):=Z36 E s c.args.toList
 split at h
 ·rename_i b hb
  rw [hb]
  simp only
  rw [hargs]
  unfold LZ
  split at h
  ·rename_i x t he1 he2
   rw [he1,he2]
   split at h
   ·rename_i hf
    have hraw:=nN h
    obtain⟨n,hn,h⟩:=Z2u h
    simp only [Tr.AP,Prod.mk.injEq] at h
    obtain⟨rfl,rfl⟩:=h
    simp only [A7,Zd5 hraw,hf,if_true,hn,Option.map_some,AO]
    rfl
   ·simp [Tr.AP] at h
  ·rename_i a x t u he1 he2
   rw [he1,he2]
   simp only [A7]
   exact ZcD h
  ·rename_i a x t u he1 he2
   rw [he1,he2]
   simp only [A7]
   exact ZgJ h
  ·obtain⟨h1,rfl⟩:=Ia h
   simp only [Z1j h1,Option.map_some]
  ·obtain⟨h1,rfl⟩:=Ia h
   simp only [Z1j h1,Option.map_some]
  ·simp [Tr.AP] at h
 ·rename_i f hf
  rw [hf]
  simp only
  rw [ET]
  split at h
  ·rename_i g first caps hg
   rw [hg]
   simp only [AO]
   have hall:A7 U first++evs E (A7 U s) c.args++A7 U caps=A7 U (first++c.args.toList.map (Bd E s)++caps):=by
    rw [hargs];simp only [Dl,List.map_append]
   rw [hall]
   exact hM _ _ _ _ _ h
  ·simp [Tr.AP] at h
 ·simp [Tr.AP] at h
theorem Z1G {E:Env} {s:List (SV U.Ty)} (ps:List (Nat×Operand)):(ps.map fun(i,x)=>(i,ev E (A7 U s) x))=J3 (ps.map fun(i,x)=>(i,Bd E s x)):=by
 simp [J3,ET]
theorem optEv {E:Env} {s:List (SV U.Ty)} (x:Option Operand):x.map (ev E (A7 U s))=(x.map (Bd E s)).map (AO U):=by
 cases x<;>simp [ET]
theorem ZlC {E:Env} {M:GY U} {call:CS} (hU:CG U E) (hM:Kr U M call) {k:Nat} {H H' : Ad U} {s:List (SV U.Ty)} {o:Oper} {y:SV U.Ty} (h:(V5 E M k H s o).AP (y,H')) :
  Ak call E k (Aj U H) (A7 U s) o=some (AO U y,Aj U H'):=by
 unfold V5 at h
 split at h
 ·rename_i x hop
  simp only [Tr.AP,Prod.mk.injEq] at h
  obtain⟨rfl,rfl⟩:=h
  unfold Ak
  rw [hop]
  simp only [ET]
 ·rename_i hop
  unfold Ak
  rw [hop]
  simp only
  split at h
  ·rename_i e _ _ _ hti
   simp only [D6,Tr.AP,Prod.mk.injEq] at h
   obtain⟨hes,rfl,rfl⟩:=h
   simp only [hti,AO,OD,BM,BH,hes]
   rfl
  ·simp [Tr.AP] at h
 ·rename_i x hne hop
  simp only [Tr.AP,Prod.mk.injEq] at h
  obtain⟨rfl,rfl⟩:=h
  unfold Ak
  rw [hop]
  split<;>simp_all [ET]
 ·rename_i c a b hop
  unfold Ak
  rw [hop]
  simp only [ET]
  split at h
  ·rename_i hc
   simp only [Tr.AP,Prod.mk.injEq] at h
   obtain⟨rfl,rfl⟩:=h
   rw [hc]
   simp [AO]
  ·rename_i hc
   simp only [Tr.AP,Prod.mk.injEq] at h
   obtain⟨rfl,rfl⟩:=h
   rw [hc]
   simp [AO]
  ·rename_i t hc
   rw [hc]
   simp only [AO]
   split at h
   ·rename_i x' y' hx hy
    simp only [Tr.AP,Prod.mk.injEq] at h
    obtain⟨rfl,rfl⟩:=h
    rw [Ot hx,Ot hy]
    cases t<;>simp [AO]
   ·simp only [Tr.AP,Prod.mk.injEq] at h
    grind
  ·simp [Tr.AP] at h
 ·rename_i t hop
  unfold Ak
  rw [hop]
  simp only
  split at h
  ·rename_i i hi
   simp only [hi]
   split at h
   ·rename_i z hz
    simp only [D6,Tr.AP,Prod.mk.injEq] at h
    obtain⟨hc,rfl,rfl⟩:=h
    simp only [hz,hc,and_self,if_true,AO,OD,BM,RD]
   ·simp [Tr.AP] at h
  ·simp [Tr.AP] at h
 ·rename_i t x hop
  unfold Ak
  rw [hop]
  simp only [ET]
  split at h
  ·rename_i i hi
   simp only [D6,Tr.AP,Prod.mk.injEq] at h
   obtain⟨⟨h1,h2⟩,rfl,rfl⟩:=h
   simp only [hi,Ov h2,Hg,h1,NJ h2,and_self,if_true,AO,OD,BM]
  ·simp [Tr.AP] at h
 ·rename_i t ps hop
  obtain⟨h1,rfl⟩:=Ia h
  rw [LY] at h1
  unfold Ak
  rw [hop]
  simp only [Z1G,ZeU h1,Option.map_some]
 ·rename_i t n ps hop
  unfold Ak
  rw [hop]
  simp only [Z1G]
  exact Z8z hU h
 ·rename_i t a hop
  obtain⟨h1,rfl⟩:=Ia h
  unfold Ak
  rw [hop]
  simp only [ET,Z2P hU h1,Option.map_some]
 ·rename_i t a v hop
  simp only [DC,Tr.AP,Prod.mk.injEq] at h
  obtain⟨H1,h1,rfl,rfl⟩:=h
  unfold Ak
  rw [hop]
  simp only [ET,ZeI hU h1,Option.map_some]
  rfl
 ·rename_i x hop
  unfold Ak
  rw [hop]
  simp only [ET]
  split at h
  ·rename_i hx
   simp only [Tr.AP,Prod.mk.injEq] at h
   obtain⟨rfl,rfl⟩:=h
   simp [hx,AO,P9]
  ·rename_i hx
   simp only [Tr.AP,Prod.mk.injEq] at h
   obtain⟨rfl,rfl⟩:=h
   simp [hx,AO,P9]
  ·rename_i hx
   simp only [Tr.AP,Prod.mk.injEq] at h
   obtain⟨rfl,rfl⟩:=h
   simp [hx,AO,P9]
  ·rename_i hx
   simp only [Tr.AP,Prod.mk.injEq] at h
   obtain⟨rfl,rfl⟩:=h
   simp [hx,AO,P9]
  ·simp [Tr.AP] at h
 ·rename_i op t x z _ hop
  obtain⟨h1,rfl⟩:=Ia h
  rw [DC] at h1
  obtain⟨v,h1,h2⟩:=h1
  have hv:∀(c:Bool) y,(Tr.leaf (if c=true then sG v else v):Tr U (SV U.Ty)).AP y->AO U y=AO U v:=fun c y hy=>by
   simp only [Tr.AP] at hy
   subst hy
   split
   ·exact Zf2 v
   ·rfl
  unfold Ak
  rw [hop]
  simp only [ET,ZjB h1,Option.map_some,hv _ _ h2]
 ·rename_i op _ x hop
  obtain⟨h1,rfl⟩:=Ia h
  unfold Ak
  rw [hop]
  simp only [ET,ZjS h1,Option.map_some]
 ·rename_i src dst x hop
  unfold Ak
  rw [hop]
  simp only [ET]
  split at h
  ·rename_i hb
   rw [if_pos hb]
   exact Zfo hU h
  ·rename_i hb
   rw [if_neg hb]
   obtain⟨h1,rfl⟩:=Ia h
   simp only [Zg1 h1]
 ·rename_i t l c hop
  unfold Ak
  rw [hop]
  simp only [ET]
  split at h
  ·rename_i e _ _ _ hti
   simp only [hti]
   split at h
   ·rename_i n _ m _ ei hn hm hei
    obtain⟨k1,hn'⟩:=Z21 hn
    obtain⟨k2,hm'⟩:=Z21 hm
    simp only [hn',hm',hei]
    split at h
    ·rename_i z hz
     simp only [hz]
     split at h
     ·rename_i y0 hy0
      simp only [D6,Tr.AP,decide_eq_true_eq,Prod.mk.injEq] at h
      obtain⟨⟨c1,c2,c3,c4⟩,⟨c5,c6,c7,c8⟩,rfl,rfl⟩:=h
      have hd:=hU.dec _ _ _ hy0
      rw [RD] at hd
      rw [if_pos ⟨c5,c6,c7,c8,c1,c2,c3⟩]
      simp only [AO,OD,BM,BH,c4,hd,List.map_replicate,List.length_replicate]
      rfl
     ·simp [Tr.AP] at h
    ·simp [Tr.AP] at h
   ·simp [Tr.AP] at h
  ·simp [Tr.AP] at h
 ·rename_i t x lo hi mx hop
  unfold Ak
  rw [hop]
  simp only [ET,optEv]
  split at h
  ·rename_i n e sz by' z0 hti
   rw [hti]
   exact Zcl hU h
  ·rename_i hna
   split
   ·grind
   ·exact Zf1 h
 ·rename_i t x hop
  obtain⟨h1,rfl⟩:=Ia h
  unfold Ak
  rw [hop]
  simp only [ET,ZhR hU h1,Option.map_some]
 ·rename_i t x f hop
  obtain⟨h1,rfl⟩:=Ia h
  rw [LY] at h1
  unfold Ak
  rw [hop]
  simp only [ET,Z9g h1,Option.map_some]
 ·rename_i t x f hop
  obtain⟨h1,rfl⟩:=Ia h
  rw [LY] at h1
  unfold Ak
  rw [hop]
  simp only [ET,ZeC h1,Option.map_some]
 ·rename_i t x i hop
  obtain⟨h1,rfl⟩:=Ia h
  unfold Ak
  rw [hop]
  simp only [ET,Z92 h1,Option.map_some]
 ·rename_i t x i hop
  obtain⟨h1,rfl⟩:=Ia h
  unfold Ak
  rw [hop]
  simp only [ET,ZeX h1,Option.map_some]
 ·rename_i x i hop
  unfold Ak
  rw [hop]
  simp only [ET]
  split at h
  ·rename_i vs hv
   obtain⟨h1,rfl⟩:=Ia h
   rw [LY] at h1
   simp [hv,AO,Dl,h1]
  ·simp [Tr.AP] at h
 ·rename_i t m x ok hop
  obtain⟨h1,rfl⟩:=Ia h
  unfold Ak
  rw [hop]
  simp only [ET,ZgO h1,Option.map_some]
 ·rename_i f first caps hop
  simp only [Tr.AP,Prod.mk.injEq] at h
  obtain⟨rfl,rfl⟩:=h
  unfold Ak
  rw [hop]
  simp only [AO,evs,Z36]
 ·rename_i c hop
  exact ZfB hU hM hop h
 ·simp [Tr.AP] at h
theorem oZ {E:Env} {M:GY U} {call:CS} (hU:CG U E) (hM:Kr U M call) {ops:Array Oper} {k i:Nat} {st st' : CP U} (h:(stepT E M ops k i st).AP st') :
  Ic call E ops k i (BN U st)=some (BN U st'):=by
 unfold stepT at h
 unfold Ic
 split at h
 ·rename_i ho
  simp only [Tr.AP] at h
  subst h
  rw [ho]
 ·rename_i o ho
  rw [ho]
  simp only at h ⊢
  have run:∀(q:CP U),((V5 E M k q.H q.s o).andThen fun r=>Tr.leaf (⟨Oa q.s o.dst r.1,r.2⟩:CP U)).AP st' -> ∃v H1,Ak call E k (Aj U q.H) (A7 U q.s) o=some (v,H1)/\(⟨setSlot (A7 U q.s) o.dst v,H1⟩:St)=BN U st' :=by
   intro q hq
   simp only [DC,Tr.AP] at hq
   obtain⟨⟨v,H1⟩,h1,rfl⟩:=hq
   exact⟨_,_,ZlC hU hM h1,by simp only [BN,Z3q]⟩
  have skip:∀(q:CP U),(Tr.leaf (⟨Oa q.s o.dst .no,q.H⟩:CP U):Tr U (CP U)).AP st' -> (⟨setSlot (A7 U q.s) o.dst Ce,Aj U q.H⟩:St)=BN U st' :=by
   intro q hq
   simp only [Tr.AP] at hq
   subst hq
   simp only [BN,Z3q]
   rfl
  unfold DW
  cases hg:o.guard with
  | none=>
   simp only [hg] at h
   obtain⟨v,H1,h1,h2⟩:=run st h
   simp only [BN,h1]
   rw [h2]
   rfl
  | some jw=>
   obtain⟨j,want⟩:=jw
   simp only [hg] at h
   split at h
   ·simp [Tr.AP] at h
   ·rename_i d hd
    simp only [hd]
    rw [show (BN U st).s.getD d .und=AO U (st.s.getD d .und) from Qp st.s d]
    have fin:∀(b:Bool) (q:CP U),BN U q=BN U st->AO U (st.s.getD d .und) = .lit (.bool b) ->
      (if b==want then ((V5 E M k q.H q.s o).andThen fun r=>Tr.leaf (⟨Oa q.s o.dst r.1,r.2⟩:CP U)) else (Tr.leaf (⟨Oa q.s o.dst .no,q.H⟩:CP U):Tr U (CP U))).AP st' ->
      (match (match Ig (AO U (st.s.getD d .und)) want with
       | none=>none
       | some false=>some (Ce,(BN U st).H)
       | some true=>Ak call E k (BN U st).H (BN U st).s o) with
      | some (v,H)=>some (⟨setSlot (BN U st).s o.dst v,H⟩:St)
      | none=>none)=some (BN U st'):=by
     intro b q hq hv hr
     rw [hv,<- hq]
     simp only [Ig]
     split at hr
     ·rename_i hb
      obtain⟨v,H1,h1,h2⟩:=run q hr
      rw [hb]
      simp only [BN,h1]
      exact congrArg some h2
     ·rename_i hb
      have:=skip q hr
      rw [show (b==want)=false by simpa using hb]
      simp only [BN]
      exact congrArg some this
    split at h
    ·rename_i hs
     rw [hs]
     have:=skip st h
     simp only [AO,Ig,BN]
     exact congrArg some this
    ·rename_i hs
     refine fin true st rfl (by rw [hs];rfl) ?_
     cases want<;>exact h
    ·rename_i hs
     refine fin false st rfl (by rw [hs];rfl) ?_
     cases want<;>exact h
    ·rename_i b hs
     have hsame:∀b',b=b' -> BN U (⟨st.s.set d (.lit (.bool b')),st.H⟩:CP U)=BN U st:=by
      rintro b' rfl
      simp only [BN,St.mk.injEq,and_true]
      rw [Dl,Dl,List.map_set]
      apply List.ext_getElem?
      intro n
      rw [List.getElem?_set]
      split
      ·rename_i hdn
       subst hdn
       split
       ·rename_i hlt
        simp only [List.length_map] at hlt
        have:st.s.getD d .und=st.s[d]:=by simp [List.getD,hlt]
        rw [this] at hs
        simp [hlt,hs,AO]
       simp_all
      ·rfl
     simp only [Tr.AP] at h
     rcases h with ⟨rfl,h⟩|⟨rfl,h⟩
     ·refine fin true _ (hsame true rfl) (by rw [hs];rfl) ?_
      cases want<;>exact h
     ·refine fin false _ (hsame false rfl) (by rw [hs];rfl) ?_
      cases want<;>exact h
    ·simp [Tr.AP] at h
theorem Zj8 {E:Env} {M:GY U} {call:CS} (hU:CG U E) (hM:Kr U M call) {ops:Array Oper}:∀{is:List Nat} {st st' : CP U},(opsT E M ops is st).AP st' -> Js call E ops is (BN U st)=some (BN U st'):=by
 intro is
 induction is with
 | nil=>intro st st' h;simp only [opsT,Tr.AP] at h;subst h;rfl
 | cons i is ih=>
  intro st st' h
  simp only [opsT,DC] at h
  obtain⟨st1,h1,h2⟩:=h
  have:=oZ hU hM h1
  simp only [Js,stepD]
  rw [show (BN U st).H.length=st.H.length from OA st.H,this]
  exact ih h2
theorem nU {E:Env} {s:List (SV U.Ty)} {o:Oper}:CY E (A7 U s) o=RQ E s o:=by
 unfold CY RQ
 congr 1
 funext x
 rw [ET,ZeT]
theorem Zcj {H:Ad U} {a:SV U.Ty} {k:Nat} (h:qB H a k=true):Ld (Aj U H) (AO U a) k=true:=by
 unfold qB at h
 split at h
 ·rename_i id i off tot
  simp only [Bool.and_eq_true,beq_iff_eq] at h
  obtain⟨h1,h2⟩:=h
  split at h2
  ·rename_i e n x hb
   simp only [beq_iff_eq] at h2
   simp only [AO,Ld,h1,beq_self_eq_true,Bool.true_and,CB,JF]
   rw [<- h1,hb]
   simp [BM,BH,h2]
  ·cases h2
 ·rename_i id n
  simp only [Bool.and_eq_true,beq_iff_eq] at h
  obtain⟨h1,h2⟩:=h
  split at h2
  ·rename_i t xs fl hb
   simp only [AO,Ld,h1,beq_self_eq_true,Bool.true_and,JF]
   rw [<- h1,hb]
   simp [BM]
  ·cases h2
 ·cases h
theorem Z1R {base k:Nat} {s0:List (SV U.Ty)} {t:Nat⊕Nat} (h:Uh base s0 t=some k):Na base (A7 U s0) t=some k:=by
 cases t with
 | inl j=>exact h
 | inr d=>
  unfold Uh at h
  unfold Na
  have:(A7 U s0).getD d .und=AO U (s0.getD d .und):=by
   rw [Dl]
   simp only [List.getD,List.getElem?_map]
   cases s0[d]?<;>rfl
  simp only at h ⊢
  rw [this]
  split at h
  ·rename_i he
   rw [he]
   exact h
  ·rename_i he
   rw [he]
   exact h
  ·cases h
theorem ZfG {E:Env} {ms:List Nat} {lt:List (Nat×(Nat⊕Nat))} {s0:List (SV U.Ty)} {base i:Nat} {s:List (SV U.Ty)} {H:Ad U} {o:Oper} (h:sN E ms lt s0 base i s H o=true):Eu E ms lt (A7 U s0) base i (A7 U s) (Aj U H) o=true:=by
 unfold sN at h
 unfold Eu
 rw [List.all_eq_true] at h ⊢
 intro p hp
 have h:=h p hp
 cases ht:Uh base s0 p.2 with
 | none=>rw [ht] at h;cases h
 | some k=>
  rw [ht] at h
  simp only at h
  rw [Z1R ht]
  simp only
  have:addrOf E (A7 U s) o=AO U (Qy E s o):=by
   unfold addrOf Qy
   cases I9 o<;>first|exact ET ..|rfl
  rw [this,nU]
  split
  ·rename_i he
   rw [if_pos he] at h
   exact Zcj h
  simp_all
theorem Zgq (v:SV U.Ty):YW (AO U v)=Z4s v:=by cases v<;>rfl
theorem Zev {E:Env} {s:List (SV U.Ty)} {o:Oper} (h:qI E s o=true):quietAt E (A7 U s) o=true:=by
 unfold qI at h
 unfold quietAt
 cases hop:o.op with
 | call c=>
  simp only [hop] at h
  simp only
  cases hcal:c.callee with
  | value f=>
   cases f with
   | tmp t=>
    simp only [hcal] at h
    simp only
    rw [Qp]
    cases hq:(E.quiet&&o.type != 0) with
    | false=>rfl
    | true=>
     simp only [hq,Bool.not_true,Bool.false_or] at h ⊢
     cases hv:s.getD t .und with
     | fn g a b=>
      rw [hv] at h
      simp only [qW,Bool.and_eq_true] at h
      simp only [AO,YH,Bool.and_eq_true]
      refine⟨h.1,?_⟩
      rw [Dl,Dl,<- List.map_append,List.all_map]
      rw [List.all_eq_true] at h ⊢
      intro x hx
      simp only [Function.comp,Zgq]
      exact h.2 x hx
     | _=>rw [hv] at h;simp [qW] at h
   | _=>rfl
  | _=>rfl
 | _=>rfl
theorem Z2s {E:Env} {ops:Array Oper} {base n:Nat} {s0:List (SV U.Ty)} {o:Oper} (h:Y4 E ops base s0 o=some n):S9 E ops base (A7 U s0) o=some n:=by
 unfold Y4 at h
 unfold S9
 split at h
 ·rename_i t d hop
  rw [hop]
  simp only
  cases hr:rootOf E ops 12 d with
  | none=>rw [hr] at h;cases h
  | some r=>rw [hr] at h;exact Z1R h
 ·cases h
theorem Zfn {E:Env} {ops:Array Oper} {ms:List Nat} {lt:List (Nat×(Nat⊕Nat))} {s0:List (SV U.Ty)} {base i:Nat} {s:List (SV U.Ty)} {o:Oper} (h:rD E ops ms lt s0 base i s o=true) :
  JK E ops ms lt (A7 U s0) base i (A7 U s) o=true:=by
 unfold rD at h
 unfold JK
 rw [List.all_eq_true] at h ⊢
 intro j hj
 have h:=h j hj
 cases ho:ops[j]? with
 | none=>rfl
 | some oj=>
  rw [ho] at h
  simp only [Bool.or_eq_true,Bool.and_eq_true] at h ⊢
  rcases h with h|⟨h1,h2⟩
  ·exact .inl h
  ·refine .inr ⟨?_,?_⟩
   ·rcases h1 with h1|h1|h1
    ·exact .inl h1
    ·exact .inr (.inl h1)
    ·refine .inr (.inr ?_)
     have ha:addrOf E (A7 U s) o=AO U (Qy E s o):=by
      unfold addrOf Qy
      cases I9 o<;>first|exact ET ..|rfl
     split at h1
     ·rename_i n id q hn hq
      rw [Z2s hn,ha,hq]
      simpa [AO] using h1
     ·cases h1
   ·rcases h2 with h2|h2|h2
    ·exact .inl h2
    ·exact .inr (.inl h2)
    ·refine .inr (.inr ?_)
     split at h2
     ·rename_i n hn
      rw [Z2s hn,nU]
      exact h2
     ·cases h2
theorem ZfM {ops:Array Oper} {base:Nat} {H:Ad U} (h:Yd ops base H=true):Jy ops base (Aj U H)=true:=by
 unfold Yd at h
 unfold Jy
 rw [List.all_eq_true] at h ⊢
 intro j hj
 have h:=h j hj
 cases ho:ops[j]? with
 | none=>rfl
 | some o=>
  rw [ho] at h
  simp only [Bool.or_eq_true,Bool.not_eq_true'] at h ⊢
  rcases h with h|h
  ·exact .inl h
  ·refine .inr ?_
   rw [show (Aj U H)[base+j]? = (H[base+j]?).map (BM U) from JF _ _]
   cases hb:H[base+j]? with
   | none=>rw [hb] at h;cases h
   | some b=>
    rw [hb] at h
    cases b<;>simp_all [Z3U,BM,NQ,BH]
theorem ZgU {E:Env} {ops:Array Oper} {base m:Nat} {H:Ad U} {o:Oper} (h:(!GM E o||(decide (base+m<=H.length)&&(!Fj E o||Yd ops base H)))=true) :
  (!GM E o||(decide (base+m<=H.length)&&(!Fj E o||Jy ops base (Aj U H))))=true:=by
 simp only [Bool.or_eq_true,Bool.and_eq_true] at h ⊢
 rcases h with h|⟨h1,h|h⟩
 ·exact .inl h
 ·exact .inr ⟨h1,.inl h⟩
 ·exact .inr ⟨h1,.inr (ZfM h)⟩
theorem Ze2 {E:Env} {M:GY U} {call:CS} (hU:CG U E) (hM:Kr U M call) {ops:Array Oper} {ms:List Nat} {lt:List (Nat×(Nat⊕Nat))} {s0:List (SV U.Ty)} {base m i:Nat} {st st' : CP U} (h:(qG E M ops ms lt s0 base m i st).AP st') :
  GL call E ops ms lt (A7 U s0) base m i (BN U st)=some (BN U st'):=by
 unfold qG at h
 unfold GL
 split at h
 ·rename_i ho
  simp only [Tr.AP] at h
  subst h
  rw [ho]
 ·rename_i o ho
  rw [ho]
  simp only [D6] at h ⊢
  obtain⟨h1,h1',h⟩:=h
  rw [Bool.and_eq_true,Bool.and_eq_true,Bool.and_eq_true] at h1'
  obtain⟨⟨⟨h0,h0a⟩,h1a⟩,h1b⟩:=h1'
  have h1' :=And.intro h1a h1b
  rw [show quietAt E (BN U st).s o=true from Zev h0,show JK E ops ms lt (A7 U s0) base i (BN U st).s o=true from Zfn h0a,Bool.and_true,Bool.and_true]
  rw [show CY E (BN U st).s o=RQ E st.s o from nU,show (BN U st).H.length=st.H.length from OA st.H,if_pos (by rw [h1,Bool.true_and,Bool.and_eq_true];exact⟨ZfG h1'.1,ZgU h1'.2⟩)]
  split at h
  ·rename_i hc
   rw [if_pos hc]
   rw [show (BN U st).H[base+i]? = (st.H[base+i]?).map (BM U) from JF _ _]
   split at h
   ·rename_i b hb
    rw [hb]
    split at h
    ·rename_i hd
     have:b = .dead:=by cases b<;>simp_all [Z3S]
     subst this
     simp only [Option.map_some,BM,NQ,Bool.false_eq_true,if_false]
     exact oZ hU hM h
    ·simp [Tr.AP] at h
   ·simp [Tr.AP] at h
  ·rename_i hc
   rw [if_neg hc]
   exact oZ hU hM h
theorem Zcu {E:Env} {M:GY U} {call:CS} (hU:CG U E) (hM:Kr U M call) {ops:Array Oper} {ms:List Nat} {lt:List (Nat×(Nat⊕Nat))} {s0:List (SV U.Ty)} {base m:Nat}:∀{is:List Nat} {st st' : CP U},(U8 E M ops ms lt s0 base m is st).AP st' ->
  J4 call E ops ms lt (A7 U s0) base m is (BN U st)=some (BN U st'):=by
 intro is
 induction is with
 | nil=>intro st st' h;simp only [U8,Tr.AP] at h;subst h;rfl
 | cons i is ih=>
  intro st st' h
  simp only [U8,DC] at h
  obtain⟨st1,h1,h2⟩:=h
  simp only [J4,Ze2 hU hM h1]
  exact ih h2
theorem ZfE {E:Env} {M:GY U} {call:CS} (hU:CG U E) (hM:Kr U M call) {ops:Array Oper} {st st' : CP U} (h:(YZ E M ops st).AP st'):Po call E ops (BN U st)=some (BN U st'):=by
 unfold YZ at h
 unfold Po
 have:=Zcu hU hM h
 rw [show (BN U st).H.length=st.H.length from OA st.H]
 rw [<- this]
 congr 1
 simp [BN,Aj,BM]
end
end Go.Proofs.YtlabamnhpgoekaaGreatDoor.Le
