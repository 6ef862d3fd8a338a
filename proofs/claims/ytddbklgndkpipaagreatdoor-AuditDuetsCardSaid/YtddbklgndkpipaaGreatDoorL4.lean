/- A part of it. -/
import Derived.Test.YtddbklgndkpipaaGreatDoorL3
set_option linter.unusedVariables false
set_option linter.unusedSimpArgs false
namespace Go.Proofs.YtddbklgndkpipaaGreatDoor.Le
open Go.RowKit (Below)
def L9 (P:Program) (E:Env) (f:FuncId) (as:List V) (r:V):Prop:=
 ∀(fz:Nat->Nat->Prop) (w:World) (vs:List Value),(∀b c,fz b c->∃u,w.cell? ⟨b,c,none⟩=some u)->Dk E (bare fz) w->AU (bare fz) w as vs ->
  Calls P f vs.toArray w fun e w' =>∃u fz',e = .returned u/\Below w.heap.size w w' /\ (∀b c,fz b c->fz' b c)/\(∀b c,fz' b c->b<w.heap.size->fz b c) /\
   (∀b c,fz' b c->∃u,w'.cell? ⟨b,c,none⟩=some u)/\AU (bare fz') w' [r] [u]/\Cf r=true
def sO (P:Program) (E:Env) (f:FuncId) (as:List V) (e sz:Nat) (xs:List V):Prop:=
 ∀(fz:Nat->Nat->Prop) (w:World) (vs:List Value),(∀b c,fz b c->∃u,w.cell? ⟨b,c,none⟩=some u)->Dk E (bare fz) w->AU (bare fz) w as vs ->
  Calls P f vs.toArray w fun en w' =>∃u us fz',en = .returned u/\Below w.heap.size w w' /\ (∀b c,fz b c->fz' b c)/\(∀b c,fz' b c->b<w.heap.size->fz b c) /\
   (∀b c,fz' b c->∃u,w'.cell? ⟨b,c,none⟩=some u)/\AU (bare fz') w' xs us/\(∀x∈xs,Em x=true)/\(∀u∈us,u.cells.size=sz)/\(∀u∈flat us,u.oneCell' = true) /\
   FX w' w.heap.size e sz u xs.length (flat us)/\(∀g c,u.ownBlock=some g->¬fz' g c)
def JO (P:Program) (f:FuncId):Prop:=∃fn,P.funcs[f]? = some fn/\fn.body.isNone=false/\(fn.name == "runtime.NumGoroutine")=false
structure MR (P:Program) (E:Env):Prop where
 env:∀f F,E.env f=some F->JO P f/\∀as r,CS as=true->F as=some r->match E.own f with|none=>L9 P E f as r|some e=>∀sz xs,r = .sl false sz xs->sO P E f as e sz xs
 hm:∀f key hs,E.hm f key=some hs->JO P f/\∀as H0 r H1,hs.run as H0=some (r,H1)->Q9 P E f as H0 r H1
 maps:∀f l,E.maps f=some l->JO P f/\∀x H,Q9 P E f [x] H (mkV l x) H
structure Me (P:Program) where
 tab:FuncId->Option (List (Int×FuncId))
 ok:∀f l,tab f=some l->JO P f/\∀E x H,Q9 P E f [x] H (mkV l x) H
def Me.no (P:Program):Me P:=⟨fun _=>none,fun _ _ h=>by cases h⟩
theorem Below.grownBy {w w' : World} (h:Below w.heap.size w w'):w.grownBy w' none:=⟨h.os,h.tape,h.output,h.size,fun k hk _=>h.block k hk⟩
theorem Z4l {B w0 σ H w} (h:Inv B w0 σ H w) {x x' : V} {v:Value} (hr:AU σ w [x] [v]) (hf:Js H x=some x'):Cf x' = true:=by
 unfold Js at hf
 split at hf
 ·rename_i vs
  cases hr with
  | BG h1 _=>
   cases hl:FC H vs with
   | none=>simp [hl] at hf
   | some vs' =>
    simp only [hl,Option.map_some,Option.some.injEq] at hf
    subst hf
    exact UT h h1 hl
 ·exact Yo h hr hf
section
variable {P:Program} {E:Env} {B:Nat} {w0:Start} {σ:Sg} {H:Heap} {w:World} {f:FuncId}
theorem Z3i {args as:List V} {r:V} {vs:List Value} (ts:List TypeId) (hp:L9 P E f (GH E.rows ts as) r) (hf:FC H args=some as) (hI:Inv B w0 σ H w) (hg:Dk E σ w) (hr:AU σ w args vs) :
  Calls P f vs.toArray w fun e w' =>∃u σ',e = .returned u/\Inv B w0 σ' (bump H (args.flatMap Dh)) w' /\ Ext σ w σ' w' /\ AU σ' w' [r] [u]:=by
 obtain⟨hI1,hEx1⟩:=hI.freeze (args.flatMap Dh)
 have hr1:=jB E.rows ts (YN hI hr hf (args.flatMap Dh) (fun i hi=>hi))
 have hn:CS (GH E.rows ts as)=true:=by rw [XY];exact UT hI hr hf
 generalize hσ1:σ.freeze H (args.flatMap Dh)=σ1 at hI1 hEx1 hr1
 have hbox1:σ1.box=σ.box:=by rw [<- hσ1];rfl
 have hfz0:∀b c,σ1.fz b c->(bare σ1.fz).fz b c/\w.cell? ⟨b,c,none⟩=w.cell? ⟨b,c,none⟩:=fun b c h=>⟨h,rfl⟩
 refine(hp σ1.fz w vs hI1.cells ((hg.ext hEx1).bare hfz0 (EH.refl _)) (hr1.bare hfz0 (EH.refl _) hn)).mono ?_
 rintro e w' ⟨u,fz',rfl,hb,hmono,hold,hcells,hru,hnr⟩
 obtain⟨hI2,hEx2⟩:=hI1.grown (Below.grownBy hb)
 have hcell:∀b c,σ1.fz b c->w'.cell? ⟨b,c,none⟩=w.cell? ⟨b,c,none⟩:=fun b c h=>(hEx2.fz b c h).2
 have hex:Ext σ1 w' ⟨σ1.box,fz'⟩ w' :=⟨fun id L hL=>⟨L,hL,rfl,.inl rfl⟩,fun b c h=>⟨hmono b c h,rfl⟩,EH.refl _⟩
 refine⟨u,⟨σ1.box,fz'⟩,rfl,⟨hI2.below,hI2.size,hI2.dom,fun id bx hb hl=>?_,hI2.apart,hcells,fun b c hc id bx L hb hl hL hown=>?_,hI2.low,fun b c hc hlt=>?_,fun b hb=>?_⟩,hEx1.trans (hEx2.trans hex),?_⟩
 ·obtain⟨L,hL,hok⟩:=hI2.boxes id bx hb hl
  obtain⟨us,h1,h2,h3,h4⟩:=hok.Dj
  exact⟨L,hL,⟨hok.tot,⟨us,h1.ext hex,h2,h3,h4⟩,hok.EK,hok.Au,hok.oks,hok.Gu⟩⟩
 ·obtain⟨L',hL',hok⟩:=hI1.boxes id bx hb hl
  rw [show σ1.box id=some L from hL] at hL'
  cases hL'
  exact hI1.floor b c (hold b c hc (hok.block_lt hown).2) id bx L hb hl hL hown
 ·exact hI1.old b c (hold b c hc (Nat.lt_of_lt_of_le hlt hI1.size)) hlt
 ·obtain⟨k1,k2,k3,k4⟩:=hI2.kept b hb
  exact⟨k1,k2,k3,fun c hc=>k4 c (hold b c hc (hI1.kept b hb).1)⟩
 ·exact hru.bare (fun b c h=>⟨h,rfl⟩) (EH.refl _) (by simp [CS,hnr])
theorem ownsRow_base {w:World} {b b' e sz n:Nat} {v:Value} {us:List Value} (h:FX w b e sz v n us) (hb:b' <= b):FX w b' e sz v n us:=by
 refine⟨h.1,?_⟩
 rcases h.2 with h|⟨g,cap,cur,tg,h1,h2,h3⟩
 ·exact .inl h
 ·exact .inr ⟨g,cap,cur,tg,h1,by omega,h3⟩
theorem Zkp {args as:List V} {e sz:Nat} {xs:List V} {vs:List Value} (ts:List TypeId) (hp:sO P E f (GH E.rows ts as) e sz xs) (hf:FC H args=some as) (hI:Inv B w0 σ H w) (hg:Dk E σ w) (hr:AU σ w args vs) :
  Calls P f vs.toArray w fun en w' =>∃u σ',en = .returned u/\Inv B w0 σ' (place (bump H (args.flatMap Dh)) H.length (DD true false e sz xs)) w' /\ Ext σ w σ' w' /\ AU σ' w' [.Be H.length 0 xs.length xs.length] [u]:=by
 obtain⟨hI1,hEx1⟩:=hI.freeze (args.flatMap Dh)
 have hr1:=jB E.rows ts (YN hI hr hf (args.flatMap Dh) (fun i hi=>hi))
 have hn:CS (GH E.rows ts as)=true:=by rw [XY];exact UT hI hr hf
 generalize hσ1:σ.freeze H (args.flatMap Dh)=σ1 at hI1 hEx1 hr1
 have hfz0:∀b c,σ1.fz b c->(bare σ1.fz).fz b c/\w.cell? ⟨b,c,none⟩=w.cell? ⟨b,c,none⟩:=fun b c h=>⟨h,rfl⟩
 refine(hp σ1.fz w vs hI1.cells ((hg.ext hEx1).bare hfz0 (EH.refl _)) (hr1.bare hfz0 (EH.refl _) hn)).mono ?_
 rintro en w' ⟨u,us,fz',rfl,hb,hmono,hold,hcells,hru,hfzv,hsz,hone,hown,hnfz⟩
 obtain⟨hI2,hEx2⟩:=hI1.grown (Below.grownBy hb)
 have hex:Ext σ1 w' ⟨σ1.box,fz'⟩ w' :=⟨fun id L hL=>⟨L,hL,rfl,.inl rfl⟩,fun b c h=>⟨hmono b c h,rfl⟩,EH.refl _⟩
 have hI3:Inv B w0 ⟨σ1.box,fz'⟩ (bump H (args.flatMap Dh)) w' :=by
  refine⟨hI2.below,hI2.size,hI2.dom,fun id bx hb hl=>?_,hI2.apart,hcells,fun b c hc id bx L hb hl hL hown=>?_,hI2.low,fun b c hc hlt=>?_,fun b hb=>?_⟩
  ·obtain⟨L,hL,hok⟩:=hI2.boxes id bx hb hl
   obtain⟨us,h1,h2,h3,h4⟩:=hok.Dj
   exact⟨L,hL,⟨hok.tot,⟨us,h1.ext hex,h2,h3,h4⟩,hok.EK,hok.Au,hok.oks,hok.Gu⟩⟩
  ·obtain⟨L',hL',hok⟩:=hI1.boxes id bx hb hl
   rw [show σ1.box id=some L from hL] at hL'
   cases hL'
   exact hI1.floor b c (hold b c hc (hok.block_lt hown).2) id bx L hb hl hL hown
  ·exact hI1.old b c (hold b c hc (Nat.lt_of_lt_of_le hlt hI1.size)) hlt
  ·obtain⟨k1,k2,k3,k4⟩:=hI2.kept b hb
   exact⟨k1,k2,k3,fun c hc=>k4 c (hold b c hc (hI1.kept b hb).1)⟩
 have hblk:∀g,u.ownBlock=some g->w.heap.size<=g:=by
  intro g hg'
  rcases hown.2 with ⟨hv,_⟩|⟨g',cap,cur,tg,hv,hle,_⟩
  ·rw [hv] at hg';cases hg'
  ·rw [hv] at hg'
   simp only [Value.ownBlock,Option.some.injEq] at hg'
   omega
 have hnr:CS xs=true:=Ox hfzv
 have hk:FD (bump H (args.flatMap Dh)) H.length=true:=by
  have:=Vh (bump H (args.flatMap Dh))
  rwa [bump_length] at this
 obtain⟨hI4,hEx4⟩:=hI3.ZlP hk (DD true false e sz xs) rfl ⟨u,xs.length,sz⟩ (by simp [DD])
  (fun id bx' L' g h1 h2 h3 h4 h5=>by
   obtain⟨L'',hL'',hok⟩:=hI1.boxes id bx' h1 h2
   rw [show σ1.box id=some L' from h3] at hL''
   cases hL''
   have:=(hok.block_lt h4).2
   grind)
  (fun g c h=>hnfz g c h) (fun g h hk=>by have:=(hI1.kept g hk).1;have:=hblk g h;omega)
  ⟨rfl,⟨us,hru.bare (fun b c h=>⟨h,rfl⟩) (EH.refl _) hnr,hsz,hone,by simpa [DD] using ownsRow_base hown hI1.size⟩,by simp [DD],rfl,tN hfzv,fun _ x hx=>Oz (hfzv x hx)⟩
 have hval:∃a n c,u = .slice a n c/\n=xs.length/\n<=c:=by
  rcases hown.2 with ⟨hv,hn⟩|⟨g,cap,cur,tg,hv,_,_,_,hnc,_⟩
  ·grind
  ·grind
 obtain⟨a,n,c,hv,hn',hnc⟩:=hval
 refine⟨u,_,rfl,hI4,hEx1.trans (hEx2.trans (hex.trans hEx4)),.Be (L:=⟨u,xs.length,sz⟩) (by simp [Sg.put]) (Nat.le_refl _) (fun _=>⟨by omega,a,n,c,0,hv,?_,Nat.zero_le _,Nat.le_refl _,fun _=>rfl⟩) ⟨a,n,c,hv⟩ .nil⟩
 subst hn'
 rw [hv]
 cases a with
 | none=>simp
 | some a=>simp [Addr.add]
theorem Z6r (hE:Ci E) (hP:E.P=P) {call:Df} (hcall:Jo P E B w0 call) (hpure:OA E call) {fn:Func} (hfn:E.func f=some fn) {n:Nat} {args:List V} {H' : Heap} {r:V} {vs:List Value}
  (hb:OZ call n E f fn args H=some (r,H')) (hI:Inv B w0 σ H w) (hg:Dk E σ w) (hr:AU σ w args vs) :
  JO P f/\Calls P f vs.toArray w fun e w' =>∃u σ',e = .returned u/\Inv B w0 σ' H' w' /\ Ext σ w σ' w' /\ AU σ' w' [r] [u]:=by
 unfold OZ at hb
 cases hbody:fn.body with
 | none=>simp [hbody] at hb
 | some c=>
  simp only [hbody] at hb
  obtain⟨hf1,hf2⟩:=hE.func f fn hfn
  rw [hP] at hf1
  refine⟨⟨fn,hf1,by simp [hbody],hf2⟩,calls_of_wp hf1 hbody ?_⟩
  have hcm:=hE.calm f fn c hfn hbody
  have hslots:AU σ w (args++List.replicate (fn.ntmps - args.length) Hf) (vs.toArray++Array.replicate (fn.ntmps - vs.toArray.size) undef).toList:=by
   simp only [Array.toList_append,Array.toList_replicate,List.size_toArray]
   rw [<- hr.length]
   exact hr.append (AU.replicate _ (.no .nil))
  have hrel:Ez E B w0 σ ⟨args++List.replicate (fn.ntmps - args.length) Hf,H⟩ { tmps:=vs.toArray++Array.replicate (fn.ntmps - vs.toArray.size) undef,defers:=[] } w:=⟨hI,hg,hslots,rfl⟩
  have hfin:∀st,(KH E st.H st.s fn.results.toList).map (·,st.H)=some (r,H')->∀a' w' σ',Ez E B w0 σ' st a' w' -> Ext σ w σ' w' ->
    a'.defers=[]/\∃v,(results fn a'.tmps).run P w' = .ok v w' /\ (fun e w' =>∃u σ',e=Ending.returned u/\Inv B w0 σ' H' w' /\ Ext σ w σ' w' /\ AU σ' w' [r] [u]) (.returned v) w' :=by
   intro st hres a' w' σ' hr' he'
   cases hx:KH E st.H st.s fn.results.toList with
   | none=>simp [hx] at hres
   | some x=>
    simp only [hx,Option.map_some,Option.some.injEq,Prod.mk.injEq] at hres
    obtain⟨rfl,rfl⟩:=hres
    obtain⟨u,hu,hur⟩:=Y5 (P:=P) hE hP hr'.inv hr'.slots hx
    exact⟨hr'.calm,u,hu,u,σ',rfl,hr'.inv,he',hur⟩
  split at hb
  ·rename_i st hc
   exact bI hE hP hcall hpure (Z6M hE hP hcall hpure n) c _ .normal st hcm hc _ σ _ w hrel (hfin st hb)
  ·rename_i st hc
   exact bI hE hP hcall hpure (Z6M hE hP hcall hpure n) c _ .ret st hcm hc _ σ _ w hrel (hfin st hb)
  ·cases hb
theorem Z4x (hE:Ci E) (hP:E.P=P) {call:Df} (hcall:∀B w0,Jo P E B w0 call) (hpure:OA E call) {fn:Func} (hfn:E.func f=some fn) {n:Nat} {as:List V} {H' : Heap} {r0 r:V}
  (hb:OZ call n E f fn as []=some (r0,H')) (hfr:Js H' r0=some r):L9 P E f as r:=by
 intro fz w vs hcells hg hr
 have hI:Inv w.heap.size (Start.of w fz) (bare fz) [] w:=⟨Below.refl _ w,Nat.le_refl _,fun id L hL=>(by cases hL),fun id bx hb=>by simp at hb,fun i j b1 b2 L1 L2 g h1=>by simp at h1,hcells,
  fun b c hc id bx L hb=>by simp at hb,fun id bx hb=>by simp at hb,fun b c hc _=>hc,fun b hb=>hb.elim⟩
 obtain⟨_,hc⟩:=Z6r hE hP (hcall w.heap.size (Start.of w fz)) hpure hfn hb hI hg hr
 refine hc.mono ?_
 rintro e w' ⟨u,σ',rfl,hI',hEx',hr'⟩
 obtain⟨hI2,hEx2⟩:=hI'.freeze (Pm r0)
 have hr2:=Z4p hI' hr' hfr (Pm r0) (fun i hi=>hi)
 have hn:=Z4l hI' hr' hfr
 refine⟨u,(σ'.freeze H' (Pm r0)).fz,rfl,hI2.below,fun b c h=>(hEx2.fz b c (hEx'.fz b c h).1).1,fun b c h hlt=>hI2.old b c h hlt,hI2.cells,?_,hn⟩
 exact hr2.bare (fun b c h=>⟨h,rfl⟩) (EH.refl _) (by simp [CS,hn])
theorem Zax {H:Heap}:∀{xs ys:List V},FC H xs=some ys->xs.length=ys.length:=by
 intro xs
 induction xs with
 | nil=>intro ys h;simp [FC] at h;subst h;rfl
 | cons x xs ih=>
  intro ys h
  simp only [FC] at h
  grind
theorem ZjX {H H' : Heap} {x:V} (h:DU (DI x) H H'):NL H' x=NL H x:=by
 unfold NL
 split
 ·rename_i id i off tot
  split
  ·cases hb:DY H id tot with
   | none=>rw [QM (h id (by simp [DI,Dv])) hb]
   | some b=>
    obtain⟨b',h1,h2⟩:=Nl (h id (by simp [DI,Dv])) hb
    obtain⟨e1,e2,e3,e4,e5⟩:=QW h2
    simp_all
  ·rfl
 ·exact Z6R h
theorem ZfD {H H' : Heap} {xs:List V} (h:DU (xs.flatMap DI) H H'):Jm H' xs=Jm H xs:=by
 induction xs with
 | nil=>rfl
 | cons x xs ih=>
  simp only [Jm]
  rw [ZjX (fun i hi=>h i (by simp [hi])),ih (fun i hi=>h i (by rw [List.flatMap_cons];exact List.mem_append_right _ hi))]
theorem Zgm (n:Nat):dG E (EY E n):=by
 intro f hp args H v H1 h
 cases n with
 | zero=>cases h
 | succ n=>
  unfold EY at h
  cases hmk:E.maps f with
  | some l=>
   simp only [hmk] at h
   split at h
   ·rename_i x
    split at h
    ·rename_i hi
     simp only [Option.some.injEq,Prod.mk.injEq] at h
     obtain⟨rfl,rfl⟩:=h
     have hi' : [x].flatMap Dh=[]:=by simpa using hi
     refine⟨by rw [hi'];rfl,fun H' _=>?_⟩
     unfold EY
     simp only [hmk]
     rw [if_pos hi,hi']
     rfl
    ·cases h
   ·cases h
  | none=>
  simp only [hmk] at h
  have hp:((E.pure f||(E.env f).isSome)&&(E.own f).isNone)=true:=by simpa [Pg,hmk] using hp
  cases henv:E.env f with
  | some F=>
   simp only [henv] at h
   by_cases hq:args.any Q7=true
   ·rw [if_pos hq] at h
    have ho:E.own f=none:=by simpa using (Bool.and_eq_true_iff.1 hp).2
    cases hf:Jm H args with
    | none=>simp [hf,ho] at h
    | some as=>
     simp only [hf,ho] at h
     cases hF:F (GH E.rows (E.par f) as) with
     | none=>simp [hF] at h
     | some r=>
      simp only [hF] at h
      split at h
      ·rename_i hfl
       simp only [Option.some.injEq,Prod.mk.injEq] at h
       refine⟨h.2.symm,fun H' hs=>?_⟩
       unfold EY
       simp only [hmk,henv]
       rw [if_pos hq,ZfD hs,hf]
       simp only [ho,hF]
       rw [if_pos hfl,h.1]
      ·cases h
   rw [if_neg hq] at h
   cases hf:FC H args with
   | none=>simp [hf] at h
   | some as=>
    have ho:E.own f=none:=by simpa using (Bool.and_eq_true_iff.1 hp).2
    simp only [hf,ho] at h
    cases hF:F (GH E.rows (E.par f) as) with
    | none=>simp [hF] at h
    | some r=>
     simp only [hF,Option.map_some,Option.some.injEq,Prod.mk.injEq] at h
     refine⟨h.2.symm,fun H' hs=>?_⟩
     unfold EY
     simp only [hmk,henv]
     rw [if_neg hq,oN hs,hf]
     simp only [ho,hF,Option.map_some,h.1]
  | none=>
   have hpf:E.pure f=true:=by simpa [henv] using (Bool.and_eq_true_iff.1 hp).1
   simp only [henv,hpf,if_true] at h
   cases hfn:E.func f with
   | none=>simp [hfn] at h
   | some fn=>
    simp only [hfn] at h
    cases hf:FC H args with
    | none=>simp [hf] at h
    | some as=>
     simp only [hf] at h
     cases hbd:OZ (EY E n) n E f fn as [] with
     | none=>simp [hbd] at h
     | some rr=>
      obtain⟨r0,H2⟩:=rr
      simp only [hbd] at h
      cases hft:Js H2 r0 with
      | none=>simp [hft] at h
      | some r=>
       simp only [hft,Option.map_some,Option.some.injEq,Prod.mk.injEq] at h
       refine⟨h.2.symm,fun H' hs=>?_⟩
       unfold EY
       simp only [hmk,henv,hpf,if_true,hfn]
       rw [oN hs,hf]
       simp_all
theorem Yq (H:Heap) (a b:List Nat):bump (bump H a) b=bump H (a++b):=by
 induction a generalizing H with
 | nil=>rfl
 | cons i a ih=>simp only [bump,List.cons_append,ih]
theorem Z4c {f:Fk} {H H1:Heap} {x y:V} (h:FV f H x=some (y,H1)) (hn:EF y=[]):∃ids,(∀i∈ids,i∈Dv x)/\H1=bump H ids/\∀H',DU (Dv x) H H' -> FV f H' x=some (y,bump H' ids):=by
 cases f with
 | s e sz=>
  simp only [FV] at h
  cases hf:Fj H x with
  | none=>simp [hf] at h
  | some w=>
   simp only [hf,Option.map_some,Option.some.injEq,Prod.mk.injEq] at h
   obtain⟨rfl,rfl⟩:=h
   exact⟨Ea x,fun i hi=>Z5Z hi,rfl,fun H' hs=>by simp only [FV,rQ hs,hf,Option.map_some]⟩
 | own e sz=>
  exfalso
  simp only [FV,TG] at h
  split at h
  ·simp only [Option.some.injEq,Prod.mk.injEq] at h
   rw [<- h.1] at hn
   simp [EF] at hn
  ·simp only [Option.some.injEq,Prod.mk.injEq] at h
   rw [<- h.1] at hn
   simp [EF] at hn
  ·split at h
   ·simp only [Option.some.injEq,Prod.mk.injEq] at h
    rw [<- h.1] at hn
    simp [EF] at hn
   ·cases h
  ·cases h
 | keep=>
  simp only [FV,Option.some.injEq,Prod.mk.injEq] at h
  obtain⟨rfl,rfl⟩:=h
  exact⟨[],by simp,rfl,fun H' _=>rfl⟩
 | drop=>
  simp only [FV,Option.some.injEq,Prod.mk.injEq] at h
  obtain⟨rfl,rfl⟩:=h
  exact⟨[],by simp,rfl,fun H' _=>rfl⟩
theorem ZgD:∀{fl:List Fk} {H H1:Heap} {xs ys:List V},FQ fl H xs=some (ys,H1)->D6 ys=[]->∃ids,(∀i∈ids,i∈xs.flatMap Dv)/\H1=bump H ids/\∀H',DU (xs.flatMap Dv) H H' -> FQ fl H' xs=some (ys,bump H' ids):=by
 intro fl
 induction fl with
 | nil=>
  intro H H1 xs ys h hn
  cases xs with
  | nil=>
   simp only [FQ,Option.some.injEq,Prod.mk.injEq] at h
   obtain⟨rfl,rfl⟩:=h
   exact⟨[],by simp,rfl,fun H' _=>rfl⟩
  | cons=>simp [FQ] at h
 | cons f fl ih=>
  intro H H1 xs ys h hn
  cases xs with
  | nil=>simp [FQ] at h
  | cons x xs=>
   simp only [FQ] at h
   cases h1:FV f H x with
   | none=>simp [h1] at h
   | some r=>
    obtain⟨y,Ha⟩:=r
    simp only [h1] at h
    cases h2:FQ fl Ha xs with
    | none=>simp [h2] at h
    | some q=>
     obtain⟨zs,Hb⟩:=q
     simp only [h2,Option.some.injEq,Prod.mk.injEq] at h
     obtain⟨rfl,rfl⟩:=h
     simp only [D6,List.append_eq_nil_iff] at hn
     obtain⟨i1,a1,rfl,a3⟩:=Z4c h1 hn.1
     obtain⟨i2,b1,rfl,b3⟩:=ih h2 hn.2
     refine⟨i1++i2,fun i hi=>?_,Yq H i1 i2,fun H' hs=>?_⟩
     ·grind
     ·have hs1:DU (Dv x) H H' :=fun i hi=>hs i (by simp_all)
      have hs2:DU (xs.flatMap Dv) (bump H i1) (bump H' i1):=(PH _ i1 H).symm.trans (DU.trans (fun i hi=>hs i (by simp_all)) (PH _ i1 H'))
      simp only [FQ,a3 H' hs1,b3 _ hs2,Yq]
theorem Zif {fl:List Fk} {H H1:Heap} {x y:V} (h:IW fl H x=some (y,H1)) (hn:EF y=[]):∃ids,(∀i∈ids,i∈DI x)/\H1=bump H ids/\∀H',DU (DI x) H H' -> IW fl H' x=some (y,bump H' ids):=by
 unfold IW at h
 split at h
 ·rename_i cs
  cases h1:FQ fl H cs with
  | none=>simp [h1] at h
  | some r=>
   obtain⟨ys,Ha⟩:=r
   simp only [h1,Option.map_some,Option.some.injEq,Prod.mk.injEq] at h
   obtain⟨rfl,rfl⟩:=h
   obtain⟨ids,a1,a2,a3⟩:=ZgD h1 (by simpa [EF] using hn)
   exact⟨ids,a1,a2,fun H' hs=>by simp only [IW,a3 H' hs,Option.map_some]⟩
 ·rename_i hne
  have hr:∀i∈Dv x,i∈DI x:=fun i hi=>by
   cases x with
   | fn f a b=>simp [Dv] at hi
   | agg cs=>simp_all
   | _=>exact hi
  split at h
  ·rename_i f
   obtain⟨ids,a1,a2,a3⟩:=Z4c h hn
   refine⟨ids,fun i hi=>hr i (a1 i hi),a2,fun H' hs=>?_⟩
   unfold IW
   split
   ·simp_all
   ·exact a3 H' (fun i hi=>hs i (hr i hi))
  ·cases h
theorem Zgs:∀{fa:List (List Fk)} {H H1:Heap} {xs ys:List V},FW fa H xs=some (ys,H1)->D6 ys=[]->∃ids,(∀i∈ids,i∈xs.flatMap DI)/\H1=bump H ids/\∀H',DU (xs.flatMap DI) H H' -> FW fa H' xs=some (ys,bump H' ids):=by
 intro fl
 induction fl with
 | nil=>
  intro H H1 xs ys h hn
  cases xs with
  | nil=>
   simp only [FW,Option.some.injEq,Prod.mk.injEq] at h
   obtain⟨rfl,rfl⟩:=h
   exact⟨[],by simp,rfl,fun H' _=>rfl⟩
  | cons=>simp [FW] at h
 | cons f fl ih=>
  intro H H1 xs ys h hn
  cases xs with
  | nil=>simp [FW] at h
  | cons x xs=>
   simp only [FW] at h
   cases h1:IW f H x with
   | none=>simp [h1] at h
   | some r=>
    obtain⟨y,Ha⟩:=r
    simp only [h1] at h
    cases h2:FW fl Ha xs with
    | none=>simp [h2] at h
    | some q=>
     obtain⟨zs,Hb⟩:=q
     simp only [h2,Option.some.injEq,Prod.mk.injEq] at h
     obtain⟨rfl,rfl⟩:=h
     simp only [D6,List.append_eq_nil_iff] at hn
     obtain⟨i1,a1,rfl,a3⟩:=Zif h1 hn.1
     obtain⟨i2,b1,rfl,b3⟩:=ih h2 hn.2
     refine⟨i1++i2,fun i hi=>?_,Yq H i1 i2,fun H' hs=>?_⟩
     ·grind
     ·have hs1:DU (DI x) H H' :=fun i hi=>hs i (by simp_all)
      have hs2:DU (xs.flatMap DI) (bump H i1) (bump H' i1):=(PH _ i1 H).symm.trans (DU.trans (fun i hi=>hs i (by simp_all)) (PH _ i1 H'))
      simp only [FW,a3 H' hs1,b3 _ hs2,Yq]
theorem Zid {n:Nat} {H H2:Heap} {todo ids:List Nat} (h:Ho n [] H todo []=some (H2,ids)):todo=[]/\H2=H/\ids=[]:=by
 cases n with
 | zero=>cases h
 | succ n=>
  cases todo with
  | nil=>
   simp only [Ho,Option.some.injEq,Prod.mk.injEq] at h
   simp_all
  | cons i todo=>
   exfalso
   unfold Ho at h
   simp_all
theorem Zgi {hs:Qm} (hfb:hs.fb=[]) {args:List V} {H H1:Heap} {v:V} (h:J5 hs args H=some (v,H1)) :
  ∃ids nbs,(∀i∈ids,i∈args.flatMap DI)/\H1=bump H ids++nbs/\∀H',H'.length=H.length->DU (args.flatMap DI) H H' -> J5 hs args H' = some (v,bump H' ids++nbs):=by
 unfold J5 at h
 unfold pack at h
 rw [hfb] at h
 cases hp:FW hs.fa H args with
 | none=>simp [hp] at h
 | some r=>
  obtain⟨as,Ha⟩:=r
  simp only [hp] at h
  cases hk:Ho 1000 [] Ha (List.range 0++D6 as) [] with
  | none=>rw [hk] at h;cases h
  | some q=>
   obtain⟨H2,ids0⟩:=q
   obtain⟨hr,rfl,rfl⟩:=Zid hk
   simp only [List.range_zero,List.nil_append] at hr
   obtain⟨ids,a1,rfl,a3⟩:=Zgs hp hr
   simp only [hk] at h
   cases hrun:hs.run (Fg (([]:List Nat).idxOf ·) as) (G8 (bump H ids) []) with
   | none=>rw [hrun] at h;cases h
   | some rr=>
    obtain⟨r,H3⟩:=rr
    simp only [hrun,List.length_nil,Nat.zero_le,if_true,Option.some.injEq,Prod.mk.injEq,bump_length] at h
    obtain⟨rfl,rfl⟩:=h
    refine⟨ids,H3.map (Ey (Iq [] H.length)),a1,by simp only [LY,Ja,bump_length],fun H' hl hs' =>?_⟩
    unfold J5 pack
    rw [hfb,a3 H' hs']
    simp only [List.range_zero,List.nil_append,hr,Ho]
    have hsub:G8 (bump H' ids) []=G8 (bump H ids) []:=rfl
    simp only [hsub,hrun,List.length_nil,Nat.zero_le,if_true,bump_length,hl,LY,Ja]
theorem Zi9 (n:Nat):cO E (EY E n):=by
 intro f hf args H v H1 h
 cases n with
 | zero=>cases h
 | succ n=>
  have hf0:=hf
  unfold PY at hf
  simp only [Bool.and_eq_true,Option.isNone_iff_eq_none,Bool.not_eq_true'] at hf
  obtain⟨⟨⟨h0,h1⟩,h2⟩,h3⟩:=hf
  have hrw:=Zkf hf0
  cases hh:E.hm f [] with
  | none=>rw [hh] at h3;cases h3
  | some hs=>
   rw [hh] at h3
   have hfb:hs.fb=[]:=by simpa using h3
   have he:∀H,EY E (n+1) f args H=J5 hs args H:=fun H=>by
    unfold EY
    simp_all
   rw [he] at h
   obtain⟨ids,nbs,a1,a2,a3⟩:=Zgi hfb h
   grind
theorem ZkC {H:Heap} {x:V} {n:Nat} {b0 b:Box} (h0:H[n]? = some b0) (hr0:b0.row=false) (hr:b.row=false):Fj (H.set n b) x=Fj H x:=by
 have hn:=(List.getElem?_eq_some_iff.1 h0).1
 cases x with
 | Be id off len tot=>
  simp only [Fj,DY]
  by_cases he:n=id
  ·subst he
   rw [List.getElem?_set_self hn,h0]
   simp only []
   grind
  ·rw [List.getElem?_set_ne he]
 | fn f a c=>cases a<;>cases c<;>rfl
 | GX t v=>cases v<;>rfl
 | _=>rfl
theorem Zh0 {H:Heap} {x y:V} {n:Nat} {b0:Box} (h0:H[n]? = some b0) (hr0:b0.row=false) (h:Fj H x=some y):n∉Ea x:=by
 cases x with
 | Be id off len tot=>
  simp only [Fj,DY] at h
  simp only [Ea,List.mem_singleton]
  intro he
  subst he
  rw [h0] at h
  grind
 | _=>simp [Ea]
theorem Z5V {ids:List Nat} {H:Heap} {n:Nat} {b:Box} (h:n∉ids):bump (H.set n b) ids=(bump H ids).set n b:=by
 apply List.ext_getElem?
 intro i
 rw [Il,List.getElem?_set,List.getElem?_set,Il,bump_length]
 grind
theorem bump_at {ids:List Nat} {H:Heap} {n:Nat} (h:n∉ids):(bump H ids)[n]? = H[n]?:=by
 rw [Il]
 grind
theorem Z5p {f:Fk} {H H1:Heap} {x y:V} {n:Nat} {b0 b:Box} (h0:H[n]? = some b0) (hr0:b0.row=false) (hr:b.row=false) (h:FV f H x=some (y,H1)) :
  H1[n]? = some b0/\FV f (H.set n b) x=some (y,H1.set n b):=by
 have hn:=(List.getElem?_eq_some_iff.1 h0).1
 cases f with
 | s e sz=>
  simp only [FV] at h ⊢
  rw [ZkC h0 hr0 hr]
  cases hf:Fj H x with
  | none=>simp [hf] at h
  | some z=>
   have hni:=Zh0 h0 hr0 hf
   simp only [hf,Option.map_some,Option.some.injEq,Prod.mk.injEq] at h ⊢
   obtain⟨rfl,rfl⟩:=h
   exact⟨by rw [bump_at hni,h0],rfl,Z5V hni⟩
 | own e sz=>
  simp only [FV] at h ⊢
  unfold TG at *
  split at h
  ·simp only [Option.some.injEq,Prod.mk.injEq] at h ⊢
   obtain⟨rfl,rfl⟩:=h
   refine⟨by rw [List.getElem?_append_left hn,h0],by rw [List.length_set],?_⟩
   rw [List.set_append_left _ _ hn]
  ·simp only [Option.some.injEq,Prod.mk.injEq] at h ⊢
   obtain⟨rfl,rfl⟩:=h
   refine⟨by rw [List.getElem?_append_left hn,h0],by rw [List.length_set],?_⟩
   rw [List.set_append_left _ _ hn]
  ·split at h
   ·rename_i hz
    simp only [Option.some.injEq,Prod.mk.injEq] at h ⊢
    obtain⟨rfl,rfl⟩:=h
    exact⟨h0,by rw [if_pos hz]⟩
   ·cases h
  ·cases h
 | keep=>simp only [FV,Option.some.injEq,Prod.mk.injEq] at h ⊢;obtain⟨rfl,rfl⟩:=h;exact⟨h0,rfl,rfl⟩
 | drop=>simp only [FV,Option.some.injEq,Prod.mk.injEq] at h ⊢;obtain⟨rfl,rfl⟩:=h;exact⟨h0,rfl,rfl⟩
theorem ZiF {n:Nat} {b0 b:Box} (hr0:b0.row=false) (hr:b.row=false):∀{fl:List Fk} {H H1:Heap} {xs ys:List V},H[n]? = some b0->FQ fl H xs=some (ys,H1) ->
  H1[n]? = some b0/\FQ fl (H.set n b) xs=some (ys,H1.set n b):=by
 intro fl
 induction fl with
 | nil=>
  intro H H1 xs ys h0 h
  cases xs with
  | nil=>simp only [FQ,Option.some.injEq,Prod.mk.injEq] at h ⊢;obtain⟨rfl,rfl⟩:=h;exact⟨h0,rfl,rfl⟩
  | cons=>simp [FQ] at h
 | cons f fl ih=>
  intro H H1 xs ys h0 h
  cases xs with
  | nil=>simp [FQ] at h
  | cons x xs=>
   simp only [FQ] at h ⊢
   cases h1:FV f H x with
   | none=>simp [h1] at h
   | some r=>
    obtain⟨y,Ha⟩:=r
    obtain⟨a1,a2⟩:=Z5p h0 hr0 hr h1
    simp only [h1] at h
    rw [a2]
    cases h2:FQ fl Ha xs with
    | none=>simp [h2] at h
    | some q=>
     obtain⟨zs,Hb⟩:=q
     obtain⟨b1,b2⟩:=ih a1 h2
     simp only [h2,Option.some.injEq,Prod.mk.injEq] at h
     obtain⟨rfl,rfl⟩:=h
     simp only [b2]
     exact⟨b1,trivial⟩
theorem Zjy {fl:List Fk} {H H1:Heap} {x y:V} {n:Nat} {b0 b:Box} (h0:H[n]? = some b0) (hr0:b0.row=false) (hr:b.row=false) (h:IW fl H x=some (y,H1)) :
  H1[n]? = some b0/\IW fl (H.set n b) x=some (y,H1.set n b):=by
 unfold IW at *
 split at h
 ·rename_i cs
  cases h1:FQ fl H cs with
  | none=>simp [h1] at h
  | some r=>
   obtain⟨ys,Ha⟩:=r
   obtain⟨a1,a2⟩:=ZiF hr0 hr h0 h1
   simp only [h1,Option.map_some,Option.some.injEq,Prod.mk.injEq] at h
   obtain⟨rfl,rfl⟩:=h
   exact⟨a1,by simp only [a2,Option.map_some]⟩
 ·split at h
  ·obtain⟨a1,a2⟩:=Z5p h0 hr0 hr h
   exact⟨a1,a2⟩
  ·cases h
theorem Zkb {n:Nat} {b0 b:Box} (hr0:b0.row=false) (hr:b.row=false):∀{fa:List (List Fk)} {H H1:Heap} {xs ys:List V},H[n]? = some b0->FW fa H xs=some (ys,H1) ->
  H1[n]? = some b0/\FW fa (H.set n b) xs=some (ys,H1.set n b):=by
 intro fl
 induction fl with
 | nil=>
  intro H H1 xs ys h0 h
  cases xs with
  | nil=>simp only [FW,Option.some.injEq,Prod.mk.injEq] at h ⊢;obtain⟨rfl,rfl⟩:=h;exact⟨h0,rfl,rfl⟩
  | cons=>simp [FW] at h
 | cons f fl ih=>
  intro H H1 xs ys h0 h
  cases xs with
  | nil=>simp [FW] at h
  | cons x xs=>
   simp only [FW] at h ⊢
   cases h1:IW f H x with
   | none=>simp [h1] at h
   | some r=>
    obtain⟨y,Ha⟩:=r
    obtain⟨a1,a2⟩:=Zjy h0 hr0 hr h1
    simp only [h1] at h
    rw [a2]
    cases h2:FW fl Ha xs with
    | none=>simp [h2] at h
    | some q=>
     obtain⟨zs,Hb⟩:=q
     obtain⟨b1,b2⟩:=ih a1 h2
     simp only [h2,Option.some.injEq,Prod.mk.injEq] at h
     obtain⟨rfl,rfl⟩:=h
     simp only [b2]
     exact⟨b1,trivial⟩
theorem Zko {n:Nat} {b0 b:Box} (hr0:b0.row=false) (hr:b.row=false):∀{k:Nat} {fb:List Bf} {H H2:Heap} {todo seen ids:List Nat},fb.all Bf.isRow=true->n∉seen->H[n]? = some b0->Ho k fb H todo seen=some (H2,ids) ->
  H2[n]? = some b0/\n∉ids/\Ho k fb (H.set n b) todo seen=some (H2.set n b,ids):=by
 intro k
 induction k with
 | zero=>intro fb H H2 todo seen ids _ _ _ h;cases h
 | succ k ih=>
  intro fb H H2 todo seen ids hfb hs h0 h
  have hn:=(List.getElem?_eq_some_iff.1 h0).1
  cases todo with
  | nil=>
   simp only [Ho,Option.some.injEq,Prod.mk.injEq] at h ⊢
   obtain⟨rfl,rfl⟩:=h
   exact⟨h0,hs,rfl,rfl⟩
  | cons id todo=>
   unfold Ho at h ⊢
   by_cases hc:seen.contains id=true
   ·rw [if_pos hc] at h ⊢
    exact ih hfb hs h0 h
   ·rw [if_neg hc] at h ⊢
    cases hb:H[id]? with
    | none=>simp [hb] at h
    | some bx=>
     cases fb with
     | nil=>simp [hb] at h
     | cons f fb=>
      simp only [List.all_cons,Bool.and_eq_true] at hfb
      cases f with
      | var fl=>simp [Bf.isRow] at hfb
      | row fresh=>
       simp only [hb] at h
       split at h
       ·rename_i hl
        have hne:n≠id:=fun e=>by
         subst e
         rw [h0] at hb
         cases hb
         simp [hr0] at hl
        rw [List.getElem?_set_ne hne,hb]
        simp only [hl,if_true]
        have hs' : n∉seen++[id]:=by simp [hs,hne]
        cases fresh with
        | true=>exact ih hfb.2 hs' h0 h
        | false=>
         have hni:n∉[id]:=by simp [hne]
         simp only [Bool.false_eq_true,if_false] at h ⊢
         rw [Z5V hni]
         exact ih hfb.2 hs' (by rw [bump_at hni,h0]) h
       ·cases h
theorem Zld {H:Heap} {ids:List Nat} {n:Nat} {b:Box} (h:n∉ids):G8 (H.set n b) ids=G8 H ids:=by
 unfold G8
 apply List.map_congr_left
 intro i hi
 rw [List.getElem?_set_ne (fun e=>h (by rw [e];exact hi))]
theorem ZkR {n:Nat} {b:Box}:∀{ids:List Nat} {H bs:Heap},n<H.length->n∉ids->(Ja H ids bs)[n]? = H[n]? /\ Ja (H.set n b) ids bs=(Ja H ids bs).set n b:=by
 intro ids
 induction ids with
 | nil=>intro H bs hn _;simp only [Ja];exact⟨List.getElem?_append_left hn,(List.set_append_left _ _ hn).symm⟩
 | cons i ids ih=>
  intro H bs hn hi
  simp only [List.mem_cons,not_or] at hi
  cases bs with
  | nil=>exact⟨rfl,rfl⟩
  | cons c bs=>
   simp only [Ja]
   rw [List.set_comm _ _ hi.1]
   obtain⟨a1,a2⟩:=ih (H:=H.set i c) (bs:=bs) (by rw [List.length_set];exact hn) hi.2
   exact⟨by rw [a1,List.getElem?_set_ne (Ne.symm hi.1)],a2⟩
theorem ZiC {hs:Qm} (hfb:hs.fb.all Bf.isRow=true) {args:List V} {H H1:Heap} {v:V} {n:Nat} {b0 b:Box} (h0:H[n]? = some b0) (hr0:b0.row=false) (hr:b.row=false) (h:J5 hs args H=some (v,H1)) :
  H1[n]? = some b0/\J5 hs args (H.set n b)=some (v,H1.set n b):=by
 unfold J5 pack at *
 cases hp:FW hs.fa H args with
 | none=>simp [hp] at h
 | some r=>
  obtain⟨as,Ha⟩:=r
  obtain⟨a1,a2⟩:=Zkb hr0 hr h0 hp
  simp only [hp] at h
  rw [a2]
  simp only
  cases hk:Ho 1000 hs.fb Ha (List.range 0++D6 as) [] with
  | none=>rw [hk] at h;cases h
  | some q=>
   obtain⟨H2,ids⟩:=q
   obtain⟨c1,c2,c3⟩:=Zko hr0 hr hfb (by simp) a1 hk
   have hl:=(List.getElem?_eq_some_iff.1 c1).1
   rw [hk] at h
   simp only at h
   rw [c3]
   simp only [Zld c2]
   cases hrun:hs.run (Fg (ids.idxOf ·) as) (G8 H2 ids) with
   | none=>rw [hrun] at h;cases h
   | some rr=>
    obtain⟨r,H3⟩:=rr
    simp only [hrun] at h
    split at h
    ·rename_i hlen
     simp only [Option.some.injEq,Prod.mk.injEq] at h
     obtain⟨rfl,rfl⟩:=h
     simp only [if_pos hlen,List.length_set,LY]
     obtain⟨d1,d2⟩:=ZkR (b:=b) (ids:=ids) (H:=H2) (bs:=H3.map (Ey (Iq ids H2.length))) hl c2
     exact⟨by rw [d1,c1],by rw [d2]⟩
    ·cases h
theorem ZjI (n:Nat):dX E (EY E n):=by
 intro f hv hfr hf args H v H1 i b0 b h h0 hr0 hr
 cases n with
 | zero=>cases h
 | succ n=>
  have hf0:=hf
  unfold NS at hf
  simp only [Bool.and_eq_true,Option.isNone_iff_eq_none,Bool.not_eq_true'] at hf
  obtain⟨⟨⟨h0',h1⟩,h2⟩,h3⟩:=hf
  cases hh:E.hm f [] with
  | none=>rw [hh] at h3;cases h3
  | some hs=>
   rw [hh] at h3
   have he:∀H,EY E (n+1) f args H=J5 hs args H:=fun H=>by
    unfold EY
    simp_all
   rw [he] at h ⊢
   exact ZiC h3 h0 hr0 hr h
theorem Rf (n:Nat):OA E (EY E n):=⟨Zgm n,Zi9 n,ZjI n⟩
def XD (w:World) (b c:Nat):Prop:=∃u,w.cell? ⟨b,c,none⟩=some u
theorem Zkg {σ σ' : Sg} {w w' : World} {cs:List V} {ws:List Value} (h:AU σ w cs ws):AU σ' w' (cs.map TF) ws:=by
 induction cs generalizing ws with
 | nil=>cases h.FT;exact .nil
 | cons c cs ih=>
  obtain⟨v,vs,rfl,h1,h2⟩:=h.Dt
  simp only [List.map_cons]
  refine AU.Ew.2 ⟨?_,ih h2⟩
  cases h1 with
  | lit hl _=>exact .lit hl .nil
  | _=>exact .und _ .nil
theorem Z3d (cs:List V):CS (cs.map TF)=true:=by
 induction cs with
 | nil=>rfl
 | cons c cs ih=>cases c<;>simp [TF,CS,Cf,ih]
theorem Zg2 {B:Nat} {w0:Start} {σ:Sg} {H:Heap} {w:World} (h:Inv B w0 σ H w) {x y:V} {v:Value} (hr:AU σ w [x] [v]) (hs:NL H x=some y):AU (bare (XD w)) w [y] [v]/\Cf y=true:=by
 unfold NL at hs
 split at hs
 ·rename_i id i off tot
  split at hs
  ·rename_i hz
   obtain⟨rfl,rfl⟩:=hz
   split at hs
   ·rename_i b hb
    obtain⟨b1,b2,b3⟩:=Rn hb
    split at hs
    ·rename_i cs hrow hxs
     simp only [Option.some.injEq] at hs
     subst hs
     obtain⟨L,us,m⟩:=h.meet b1 b2
     cases hr with
     | ptr g k1 k2 k3 k4 k5=>
      rename_i L'
      have hL:L' = L:=by
       have:=m.box
       rw [k1] at this
       cases this
       rfl
      subst hL
      obtain⟨n,c,hv⟩:=k3 (m.tot.trans b3)
      have hrep:=m.Dj
      rw [hxs] at hrep
      have hus:∃ws:List Value,us=[.agg ws.toArray]/\AU σ w cs ws/\∀u∈ws,u.oneCell' = true:=by
       cases hrep with
       | agg q1 q2 q3=>cases q3;exact⟨_,rfl,q1,q2⟩
      obtain⟨ws,hus,hcs,hone⟩:=hus
      refine⟨?_,by simp [Cf,CS,Z3d]⟩
      have key:AU (bare (XD w)) w [.CY b.Au [.agg (cs.map TF)] 0 0] [.pointer (some ⟨g,0+0*b.Au+0,none⟩)]:=by
       refine .CY (us:=us) g 0 b.Au 0 0 ?_ ?_ (fun u hu=>by rw [m.Au];exact m.sizes u hu) m.ones ?_ .nil
       ·rw [hus];exact .agg (Zkg hcs) hone .nil
       ·intro x hx
        simp only [List.mem_singleton] at hx
        subst hx
        simp [Em,okV,Cf,Z3d]
       ·intro j u hu
        have:=m.cell (g:=g) (by rw [hv];rfl) j u hu
        rw [Nat.zero_add]
        exact⟨⟨u,this⟩,this⟩
      simp_all
    ·rename_i z hrow hxs
     simp only [Option.some.injEq] at hs
     subst hs
     obtain⟨L,us,m⟩:=h.meet b1 b2
     cases hr with
     | ptr g k1 k2 k3 k4 k5=>
      rename_i L'
      have hL:L' = L:=by
       have:=m.box
       rw [k1] at this
       cases this
       rfl
      subst hL
      obtain⟨n,c,hv⟩:=k3 (m.tot.trans b3)
      have hrep:=m.Dj
      rw [hxs] at hrep
      have hus:us=[z]/\leaf z=true:=by
       cases hrep with
       | lit q1 q2=>cases q2;exact⟨rfl,q1⟩
      obtain⟨hus,hz⟩:=hus
      refine⟨?_,by simp [Cf,CS]⟩
      have key:AU (bare (XD w)) w [.CY b.Au [.lit z] 0 0] [.pointer (some ⟨g,0+0*b.Au+0,none⟩)]:=by
       refine .CY (us:=us) g 0 b.Au 0 0 ?_ ?_ (fun u hu=>by rw [m.Au];exact m.sizes u hu) m.ones ?_ .nil
       ·rw [hus];exact .lit hz .nil
       ·intro x hx
        simp only [List.mem_singleton] at hx
        subst hx
        simp [Em,okV,Cf]
       ·intro j u hu
        have:=m.cell (g:=g) (by rw [hv];rfl) j u hu
        rw [Nat.zero_add]
        exact⟨⟨u,this⟩,this⟩
      simp_all
    ·cases hs
   ·cases hs
  ·cases hs
 ·have hn:=Yo h hr hs
  refine⟨?_,hn⟩
  obtain⟨hI1,hEx1⟩:=h.freeze (Dh x)
  have:=aO h hr hs (Dh x) (fun i hi=>hi)
  exact this.bare (fun b c hh=>⟨hI1.cells b c hh,rfl⟩) (EH.refl _) (by simp [CS,hn])
theorem Zcn {B:Nat} {w0:Start} {σ:Sg} {H:Heap} {w:World} (h:Inv B w0 σ H w):∀{xs ys:List V} {vs:List Value},AU σ w xs vs->Jm H xs=some ys->AU (bare (XD w)) w ys vs/\CS ys=true:=by
 intro xs
 induction xs with
 | nil=>
  intro ys vs hr hs
  cases hr.FT
  simp only [Jm,Option.some.injEq] at hs
  subst hs
  exact⟨.nil,rfl⟩
 | cons x xs ih=>
  intro ys vs hr hs
  obtain⟨v,vs',rfl,h1,h2⟩:=hr.Dt
  simp only [Jm] at hs
  split at hs
  ·rename_i y ys' e1 e2
   simp only [Option.some.injEq] at hs
   subst hs
   obtain⟨r1,n1⟩:=Zg2 h h1 e1
   obtain⟨r2,n2⟩:=ih h2 e2
   exact⟨AU.Ew.2 ⟨r1,r2⟩,by simp [CS,n1,n2]⟩
  ·cases hs
theorem Z4G {σ σ' : Sg} {w w' : World} {cs:List V} {ws:List Value} (h:AU σ w cs ws) (hl:cs.all I9=true):AU σ' w' cs ws:=by
 induction cs generalizing ws with
 | nil=>cases h.FT;exact .nil
 | cons c cs ih=>
  obtain⟨v,vs,rfl,h1,h2⟩:=h.Dt
  simp only [List.all_cons,Bool.and_eq_true] at hl
  refine AU.Ew.2 ⟨?_,ih h2 hl.2⟩
  cases h1 with
  | lit hl' _=>exact .lit hl' .nil
  | _=>simp [I9] at hl
theorem ZhL {σ σ' : Sg} {w w' : World} {x:V} {u:Value} (h:AU σ w [x] [u]) (hl:J4 x=true):AU σ' w' [x] [u]:=by
 cases h with
 | lit hl' _=>exact .lit hl' .nil
 | agg h1 h2 _=>exact .agg (Z4G h1 (by simpa [J4] using hl)) h2 .nil
 | _=>simp [J4] at hl
theorem Zgu {σ σ' : Sg} {w w' : World} {cs:List V} {ws:List Value} (h:AU σ w cs ws) (hl:cs.all J4=true):AU σ' w' cs ws:=by
 induction cs generalizing ws with
 | nil=>cases h.FT;exact .nil
 | cons c cs ih=>
  obtain⟨v,vs,rfl,h1,h2⟩:=h.Dt
  simp only [List.all_cons,Bool.and_eq_true] at hl
  exact AU.Ew.2 ⟨ZhL h1 hl.1,ih h2 hl.2⟩
theorem Zj0 {σ σ' : Sg} {w w' : World} {x:V} {u:Value} (h:AU σ w [x] [u]) (hl:NP x=true):AU σ' w' [x] [u]:=by
 cases h with
 | lit hl' _=>exact .lit hl' .nil
 | agg h1 h2 _=>exact .agg (Z4G h1 (by simpa [NP,J4] using hl)) h2 .nil
 | BG h1 _=>exact .BG (Zgu h1 (by simpa [NP] using hl)) .nil
 | _=>simp [NP,J4] at hl
theorem ZfM {P:Program} {E:Env} {B:Nat} {w0:Start} {σ:Sg} {H:Heap} {w:World} {f:FuncId} {args as:List V} {r:V} {vs:List Value} (ts:List TypeId) (hp:CS (GH E.rows ts as)=true->L9 P E f (GH E.rows ts as) r) (hf:Jm H args=some as) (hfl:NP r=true) (hI:Inv B w0 σ H w) (hg:Dk E σ w) (hr:AU σ w args vs) :
  Calls P f vs.toArray w fun e w' =>∃u σ',e = .returned u/\Inv B w0 σ' (bump H (args.flatMap Dh)) w' /\ Ext σ w σ' w' /\ AU σ' w' [r] [u]:=by
 obtain⟨hI1,hEx1⟩:=hI.freeze (args.flatMap Dh)
 obtain⟨r1,n1⟩:=Zcn hI hr hf
 have hr1:=jB E.rows ts r1
 refine(hp (by rw [XY];exact n1) (XD w) w vs (fun b c h=>h) (hg.bare (fun b c h=>⟨hI.cells b c h,rfl⟩) (EH.refl _)) hr1).mono ?_
 rintro e w' ⟨u,fz',rfl,hb,hmono,hold,hcells,hru,hnr⟩
 obtain⟨hI2,hEx2⟩:=hI1.grown (Below.grownBy hb)
 exact⟨u,_,rfl,hI2,hEx1.trans hEx2,Zj0 hru hfl⟩
theorem aY (hE:Ci E) (hP:E.P=P) (hF:MR P E):∀(n:Nat) (B:Nat) (w0:Start),Jo P E B w0 (EY E n):=by
 intro n
 induction n with
 | zero=>intro B w0 f args H x H' σ w vs h;cases h
 | succ n ih=>
  intro B w0 f args H x H' σ w vs h hI hg hr
  unfold EY at h
  cases hmk:E.maps f with
  | some l=>
   simp only [hmk] at h
   split at h
   ·rename_i x
    split at h
    ·simp only [Option.some.injEq,Prod.mk.injEq] at h
     obtain⟨rfl,rfl⟩:=h
     obtain⟨h1,h2⟩:=hF.maps f l hmk
     exact⟨h1,h2 x H B w0 σ w vs hI hg hr⟩
    ·cases h
   ·cases h
  | none=>
  simp only [hmk] at h
  cases henv:E.env f with
  | some F=>
   simp only [henv] at h
   by_cases hq:args.any Q7=true
   ·rw [if_pos hq] at h
    cases ho:E.own f with
    | some e=>simp [ho] at h
    | none=>
     cases hf:Jm H args with
     | none=>simp [ho,hf] at h
     | some as=>
      simp only [ho,hf] at h
      cases hFa:F (GH E.rows (E.par f) as) with
      | none=>simp [hFa] at h
      | some r=>
       simp only [hFa] at h
       split at h
       ·rename_i hfl
        simp only [Option.some.injEq,Prod.mk.injEq] at h
        obtain⟨rfl,rfl⟩:=h
        obtain⟨h1,h2⟩:=hF.env f F henv
        refine⟨h1,ZfM (E.par f) (fun hn=>?_) hf hfl hI hg hr⟩
        simp_all
       ·cases h
   rw [if_neg hq] at h
   cases hf:FC H args with
   | none=>simp [hf] at h
   | some as=>
    simp only [hf] at h
    cases hFa:F (GH E.rows (E.par f) as) with
    | none=>
     grind
    | some r=>
     obtain⟨h1,h2⟩:=hF.env f F henv
     have h3:=h2 _ r (by rw [XY];exact UT hI hr hf) hFa
     cases ho:E.own f with
     | none=>
      simp only [ho,hFa,Option.map_some,Option.some.injEq,Prod.mk.injEq] at h
      obtain⟨rfl,rfl⟩:=h
      rw [ho] at h3
      exact⟨h1,Z3i (E.par f) h3 hf hI hg hr⟩
     | some e=>
      simp only [ho,hFa] at h
      rw [ho] at h3
      split at h
      ·rename_i sz xs hr0
       simp only [Option.some.injEq,Prod.mk.injEq] at h hr0
       obtain⟨rfl,rfl⟩:=h
       exact⟨h1,Zkp (E.par f) (h3 sz xs hr0) hf hI hg hr⟩
      ·cases h
  | none=>
   simp only [henv] at h
   split at h
   ·cases hfn:E.func f with
    | none=>simp [hfn] at h
    | some fn=>
     simp only [hfn] at h
     cases hf:FC H args with
     | none=>simp [hf] at h
     | some as=>
      simp only [hf] at h
      cases hbd:OZ (EY E n) n E f fn as [] with
      | none=>simp [hbd] at h
      | some rr=>
       obtain⟨r0,H2⟩:=rr
       simp only [hbd] at h
       cases hft:Js H2 r0 with
       | none=>simp [hft] at h
       | some r=>
        simp only [hft,Option.map_some,Option.some.injEq,Prod.mk.injEq] at h
        obtain⟨rfl,rfl⟩:=h
        have hent:JO P f:=by
         obtain⟨hf1,hf2⟩:=hE.func f fn hfn
         rw [hP] at hf1
         refine⟨fn,hf1,?_,hf2⟩
         unfold OZ at hbd
         cases hb:fn.body with
         | none=>simp [hb] at hbd
         | some c=>rfl
        exact⟨hent,Z3i [] (by simpa [GH] using Z4x hE hP ih (Rf n) hfn hbd hft) hf hI hg hr⟩
   ·cases hhm:E.hm f (if NS E f then [] else KW args) with
    | some hs=>
     simp only [hhm] at h
     obtain⟨h1,h2⟩:=hF.hm f _ hs hhm
     exact⟨h1,ZkQ h2 h hI hg hr⟩
    | none=>
     simp only [hhm] at h
     cases hfn:E.func f with
     | none=>simp [hfn] at h
     | some fn=>
      simp only [hfn] at h
      exact Z6r hE hP (ih B w0) (Rf n) hfn h hI hg hr
theorem ZiT {n:Nat} {as:List V} {r:V} {H' : Heap} (hE:Ci E) (hP:E.P=P) (hF:MR P E) (hp:E.pure f=true) (hne:E.env f=none) (hmk:E.maps f=none) (hn:FC [] as=some as) (h:EY E (n+1) f as []=some (r,H')):L9 P E f as r:=by
 unfold EY at h
 simp only [hmk,hne,hp,if_true] at h
 cases hfn:E.func f with
 | none=>simp [hfn] at h
 | some fn=>
  simp only [hfn,hn] at h
  cases hbd:OZ (EY E n) n E f fn as [] with
  | none=>simp [hbd] at h
  | some rr=>
   obtain⟨r0,H2⟩:=rr
   simp only [hbd] at h
   cases hft:Js H2 r0 with
   | none=>simp [hft] at h
   | some r' =>
    simp only [hft,Option.map_some,Option.some.injEq,Prod.mk.injEq] at h
    obtain⟨rfl,_⟩:=h
    exact Z4x hE hP (aY hE hP hF n) (Rf n) hfn hbd hft
end
end Go.Proofs.YtddbklgndkpipaaGreatDoor.Le
namespace Go.Proofs.YtddbklgndkpipaaGreatDoor.Le
inductive SV (Ty:Nat->Type) where
 | lit (v:Value)
 | si (k:IntKind) (a:Int)
 | sb (b:Bool)
 | ss (s:ByteArray)
 | agg (cs:List (SV Ty))
 | BG (vs:List (SV Ty))
 | nil (e:Nat)
 | sl (t:Nat) (xs:List (Ty t))
 | Cj (t:Nat) (xs:List (Ty t))
 | all (id n:Nat)
 | Be (id off len tot:Nat)
 | ptr (id i off tot:Nat)
 | CY (t:Nat) (xs:List (Ty t)) (i off:Nat)
 | fn (f:FuncId) (first caps:List (SV Ty))
 | raw (v:V)
 | N9 (kvs:List (SV Ty))
 | Qv (d:Nat) (cs:List V) (off:Nat)
 | no
 | und
instance (Ty:Nat->Type):Inhabited (SV Ty):=⟨.und⟩
structure Cm where
 Ty:Nat->Type
 Au:Nat->Nat
 enc:(t:Nat)->Ty t->V
 encS:(t:Nat)->Ty t->SV Ty
 Gf:(t:Nat)->SV Ty->Option (Ty t)
 keys:List Nat
section
variable (U:Cm)
mutual
def AY:SV U.Ty->V
 | .lit v=>.lit v
 | .si k a=>.lit (.int k a)
 | .sb b=>.lit (.bool b)
 | .ss s=>.lit (.string s)
 | .agg cs=>.agg (Aw cs)
 | .BG cs=>.BG (Aw cs)
 | .nil e=>.sl true e []
 | .sl t xs=>.sl false (U.Au t) (xs.map (U.enc t))
 | .Cj t xs=>.Cj false (U.Au t) (xs.map (U.enc t))
 | .all id n=>.Be id 0 n n
 | .Be id off len tot=>.Be id off len tot
 | .ptr id i off tot=>.ptr id i off tot
 | .CY t xs i off=>.CY (U.Au t) (xs.map (U.enc t)) i off
 | .fn f a b=>.fn f (Aw a) (Aw b)
 | .raw v=>v
 | .N9 cs=>.GV (Aw cs)
 | .Qv d cs off=>.CY d [.agg cs] 0 off
 | .no=>.no
 | .und=>.und
def Aw:List (SV U.Ty)->List V
 | []=>[]
 | x::xs=>AY x::Aw xs
end
inductive Jt (Ty:Nat->Type) where
 | var (elem:TypeId) (Au:Nat) (x:SV Ty)
 | row (t:Nat) (xs:List (Ty t)) (fl:Option Nat)
 | dead
 | gone
 | fvar (elem:TypeId) (Au:Nat) (x:SV Ty)
def Jt.floor {Ty:Nat->Type} (fl:Option Nat):Nat:=fl.getD 0
def Ce:Jt U.Ty->Box
 | .var e n x=>DD false false e n [AY U x]
 | .row t xs fl=>{ live:=true,row:=true,EK:=false,elem:=t,Au:=U.Au t,xs:=xs.map (U.enc t),floor:=fl.getD 0 }
 | .dead=>OC
 | .gone=>SQ
 | .fvar e n x=>{ DD false false e n [AY U x] with floor:=1 }
abbrev BF:=List (Jt U.Ty)
def BI (H:BF U):Heap:=H.map (Ce U)
structure D9 where
 s:List (SV U.Ty)
 H:BF U
def C9 (st:D9 U):St:=⟨Aw U st.s,BI U st.H⟩
inductive Tr (L:Type) where
 | leaf (l:L)
 | br (c:Bool) (a b:Tr L)
 | bind (t:Nat) (o:Option (U.Ty t)) (k:U.Ty t->Tr L)
 | chk (c:Bool) (a:Tr L)
 | fail
variable {U}
def Tr.andThen {L M:Type}:Tr U L->(L->Tr U M)->Tr U M
 | .leaf l,f=>f l
 | .br c a b,f=>.br c (a.andThen f) (b.andThen f)
 | .bind t o k,f=>.bind t o fun x=>(k x).andThen f
 | .chk c a,f=>.chk c (a.andThen f)
 | .fail,_=>.fail
def Tr.map {L M:Type} (g:L->M):Tr U L->Tr U M
 | .leaf l=>.leaf (g l)
 | .br c a b=>.br c (a.map g) (b.map g)
 | .bind t o k=>.bind t o fun x=>(k x).map g
 | .chk c a=>.chk c (a.map g)
 | .fail=>.fail
def Tr.den {L R:Type} (J:L->Option R):Tr U L->Option R
 | .leaf l=>J l
 | .br c a b=>cond c (a.den J) (b.den J)
 | .bind t o k=>o.bind fun x=>(k x).den J
 | .chk c a=>cond c (a.den J) none
 | .fail=>none
def Tr.AZ {L:Type}:Tr U L->L->Prop
 | .leaf l,x=>l=x
 | .br c a b,x=>(c=true/\a.AZ x)\/(c=false/\b.AZ x)
 | .bind t o k,x=>∃a,o=some a/\(k a).AZ x
 | .chk c a,x=>c=true/\a.AZ x
 | .fail,_=>False
def Tr.opt {L:Type}:Option L->Tr U L
 | some l=>.leaf l
 | none=>.fail
def Tr.when {L:Type} (p:Prop) [Decidable p] (a:Tr U L):Tr U L:=if p then a else .fail
variable (U)
def Po:V->SV U.Ty
 | .lit v=>.lit v
 | .sl true e []=>.nil e
 | .no=>.no
 | .und=>.und
 | v=>.raw v
def JJ:V->SV U.Ty
 | .agg cs=>.agg (cs.map (Po U))
 | v=>Po U v
variable {U}
def cellsS:SV U.Ty->List (SV U.Ty)
 | .agg cs=>cs
 | v=>[v]
def okS:SV U.Ty->Bool
 | .und | .no | .BG _ | .N9 _ | .Qv ..=>false
 | .raw (.agg _)=>false
 | .raw v=>okV v
 | _=>true
def TY:SV U.Ty->Option Value
 | .lit v=>some v
 | .si k a=>some (.int k a)
 | .sb b=>some (.bool b)
 | .ss s=>some (.string s)
 | _=>none
def asInt:SV U.Ty->Option (IntKind×Int)
 | .lit (.int k a)=>some (k,a)
 | .si k a=>some (k,a)
 | _=>none
def JF:SV U.Ty->Option ByteArray
 | .lit (.string s)=>some s
 | .ss s=>some s
 | _=>none
def asBool:SV U.Ty->Option Bool
 | .lit (.bool b)=>some b
 | .sb b=>some b
 | _=>none
def DK (E:Env) (s:List (SV U.Ty)):Operand->SV U.Ty
 | .tmp t=>s.getD t .und
 | .const v=>JJ U (Nv v)
 | .func f=>.fn f [] []
 | .global g=>match E.EP g with|some r=>.raw (.CY r.length [.agg r] 0 0)|none=>.und
def Py (s:List (SV U.Ty)) (d:Option Tmp) (v:SV U.Ty):List (SV U.Ty):=match d with|some t=>s.set t v|none=>s
def ND (H:BF U) (k:Nat) (b:Jt U.Ty):BF U:=if k<H.length then H.set k b else H++[b]
def rowAt {L:Type} (H:BF U) (id tot:Nat) (k:(t:Nat)->List (U.Ty t)->Option Nat->Tr U L):Tr U L:=
 match H[id]? with
 | some (.row t xs fl)=>.chk (xs.length==tot) (k t xs fl)
 | _=>.fail
def Lj (H:BF U):SV U.Ty->Tr U (SV U.Ty)
 | .lit v=>.leaf (.lit v)
 | .si k a=>.leaf (.si k a)
 | .sb b=>.leaf (.sb b)
 | .ss s=>.leaf (.ss s)
 | .nil e=>.leaf (.nil e)
 | .sl t xs=>.leaf (.sl t xs)
 | .Cj t xs=>.leaf (.sl t xs)
 | .all id n=>rowAt H id n fun t xs _=>.leaf (.sl t xs)
 | .Be id off len tot=>rowAt H id tot fun t xs _=>.chk (decide (off+len<=tot)) (.leaf (.sl t ((xs.drop off).take len)))
 | .fn f [] []=>.leaf (.fn f [] [])
 | _=>.fail
def Qi (H:BF U):List (SV U.Ty)->Tr U (List (SV U.Ty))
 | []=>.leaf []
 | v::vs=>(Lj H v).andThen fun w=>(Qi H vs).andThen fun ws=>.leaf (w::ws)
def Pj (H:BF U):SV U.Ty->Tr U (SV U.Ty)
 | .agg cs=>(Qi H cs).andThen fun ws=>.leaf (.agg ws)
 | v=>Lj H v
def Ny (H:BF U):List (SV U.Ty)->Tr U (List (SV U.Ty))
 | []=>.leaf []
 | v::vs=>(Pj H v).andThen fun w=>(Ny H vs).andThen fun ws=>.leaf (w::ws)
def NR:SV U.Ty->List Nat
 | .Be id _ _ _=>[id]
 | .all id _=>[id]
 | .raw v=>Ea v
 | _=>[]
def KX:SV U.Ty->List Nat
 | .agg cs=>cs.flatMap NR
 | .raw v=>Dh v
 | v=>NR v
def bD:Jt U.Ty->Jt U.Ty
 | .row t xs _=>.row t xs (some xs.length)
 | b=>b
def OY (H:BF U):List Nat->BF U
 | []=>H
 | i::is=>OY (H.modify i bD) is
def Pe (cs:List (SV U.Ty)) (off n:Nat) (isAgg:Bool):Option (SV U.Ty):=
 if isAgg then (if off+n<=cs.length then some (.agg ((cs.drop off).take n)) else none) else cs[off]?
def PS (e:Nat):List (SV U.Ty)->Option (List (U.Ty e))
 | []=>some []
 | v::vs=>match okS v,U.Gf e v,PS e vs with|true,some a,some as=>some (a::as)|_,_,_=>none
def loadT (E:Env) (H:BF U) (t:TypeId) (a:SV U.Ty):Tr U (SV U.Ty):=
 match E.ti t with
 | none=>.fail
 | some i=>
  match a with
  | .CY et xs j off=>.bind et xs[j]? fun x=>.opt (Pe (cellsS (U.encS et x)) off i.size i.isAgg)
  | .ptr id j off tot=>match H[id]? with
   | some (.var _ _ x)=>.when (j=0/\tot=1/\okS x=true) (.opt (Pe (cellsS x) off i.size i.isAgg))
   | some (.row et xs _)=>.chk (xs.length==tot) (.bind et xs[j]? fun x=>.opt (Pe (cellsS (U.encS et x)) off i.size i.isAgg))
   | _=>.fail
  | .raw (.CY _ [.lit z] 0 0)=>.opt (Pe [.lit z] 0 i.size i.isAgg)
  | .raw (.CY _ [.agg cs] 0 off)=>.opt ((partOf cs off i.size i.isAgg).map (JJ U))
  | .Qv _ cs off=>match PS t (cs.map (Po U)) with
   | some ys=>.when (i.size=1/\i.isAgg=false/\cs.all I9=true) (.bind t ys[off]? fun x=>.leaf (U.encS t x))
   | none=>.fail
  | _=>.fail
def bJ (x:SV U.Ty) (off:Nat) (cs:List (SV U.Ty)):Option (SV U.Ty):=
 match x with
 | .agg ds=>if off+cs.length<=ds.length then some (.agg (ds.take off++cs++ds.drop (off+cs.length))) else none
 | .raw _=>none
 | _=>match off,cs with|0,[c]=>some c|_,_=>none
def storeT (E:Env) (H:BF U) (t:TypeId) (a v:SV U.Ty):Tr U (BF U):=
 match E.ti t with
 | none=>.fail
 | some i=>
  match a with
  | .ptr id j off tot=>match H[id]? with
   | some (.var e n x)=>.when ((j=0/\tot=1)/\(cellsS v).length=i.size/\okS v=true/\okS x=true)
     (match bJ x off (cellsS v) with
      | some x' =>.when (okS x' = true) (.leaf (H.set id (.var e n x')))
      | none=>.fail)
   | some (.row et xs fl)=>.when ((cellsS v).length=i.size/\okS v=true/\(KX v).contains id=false)
     (.chk (xs.length==tot&&decide (fl.getD 0<=j)) (.bind et xs[j]? fun x=>(Pj H v).andThen fun v' =>
      match bJ (U.encS et x) off (cellsS v') with
      | some x' =>match U.Gf et x' with
       | some y=>.when (okS v' = true/\okS x' = true) (.leaf ((OY H (KX v)).set id (.row et (xs.set j y) fl)))
       | none=>.fail
      | none=>.fail))
   | _=>.fail
  | _=>.fail
end
section
variable {U:Cm}
def wH (op:BinOp) (k:IntKind) (a b:Int) (lit:Bool):Tr U (SV U.Ty):=
 match op with
 | .add=>.leaf (.si k (k.wrap (a+b)))
 | .sub=>.leaf (.si k (k.wrap (a - b)))
 | .mul=>.leaf (.si k (k.wrap (a*b)))
 | .quo=>if lit then (if b=0 then .fail else .leaf (.si k (k.wrap (a.tdiv b)))) else .chk (b != 0) (.leaf (.si k (k.wrap (a.tdiv b))))
 | .rem=>if lit then (if b=0 then .fail else .leaf (.si k (a.tmod b))) else .chk (b != 0) (.leaf (.si k (a.tmod b)))
 | .and | .or | .xor | .andNot=>.leaf (.si k (bits op k a b))
 | .eql=>.leaf (.sb (a==b))
 | .neq=>.leaf (.sb (a != b))
 | .lss=>.leaf (.sb (decide (a<b)))
 | .leq=>.leaf (.sb (decide (a<=b)))
 | .gtr=>.leaf (.sb (decide (a>b)))
 | .geq=>.leaf (.sb (decide (a>=b)))
 | _=>.fail
def Z6Z (op:BinOp) (k:IntKind) (a b:Int):Option Int:=
 match op with
 | .shl=>some (k.wrap (a*2 ^ min b.toNat k.bits))
 | .shr=>some (a.fdiv (2 ^ min b.toNat k.bits))
 | _=>none
def dF (op:BinOp) (k:IntKind) (a b:Int) (lit:Bool):Tr U (SV U.Ty):=
 match Z6Z op k a b with
 | none=>.fail
 | some r=>if lit then (if b<0 then .fail else .leaf (.si k r)) else .chk (decide (0<=b)) (.leaf (.si k r))
def wS (op:BinOp) (x y:ByteArray):Tr U (SV U.Ty):=
 match op with
 | .add=>.chk (decide (x.size+y.size<=maxLen)) (.leaf (.ss (x++y)))
 | .eql=>.leaf (.sb (x.toList==y.toList))
 | .neq=>.leaf (.sb !(x.toList==y.toList))
 | .lss=>.leaf (.sb (Op.bytesLess x.toList y.toList))
 | .leq=>.leaf (.sb (Op.bytesLess x.toList y.toList||x.toList==y.toList))
 | .gtr=>.leaf (.sb !(Op.bytesLess x.toList y.toList||x.toList==y.toList))
 | .geq=>.leaf (.sb !(Op.bytesLess x.toList y.toList))
 | _=>.fail
def LX:List FK->List (SV U.Ty)->List (SV U.Ty)->Option Bool
 | [],[],[]=>some true
 | .b::ks,x::xs,y::ys=>match asBool x,asBool y,LX ks xs ys with|some a,some b,some r=>some (a==b&&r)|_,_,_=>none
 | .i k::ks,x::xs,y::ys=>match asInt x,asInt y,LX ks xs ys with
  | some (k1,a),some (k2,b),some r=>if k1=k/\k2=k then some (a==b&&r) else none
  | _,_,_=>none
 | .s::ks,x::xs,y::ys=>match JF x,JF y,LX ks xs ys with|some a,some b,some r=>some (a==b&&r)|_,_,_=>none
 | _,_,_=>none
def isLit:SV U.Ty->Bool | .lit _=>true|_=>false
def vZ:SV U.Ty->SV U.Ty | .si k a=>.lit (.int k a) | .sb b=>.lit (.bool b)|v=>v
def wJ (E:Env) (op:BinOp) (t:TypeId) (x y:SV U.Ty):Tr U (SV U.Ty):=
 match x,y with
 | .agg xs,.agg ys=>match E.flat t with
  | some ks=>match LX ks xs ys with
   | some b=>(match op with | .eql=>.leaf (.sb b) | .neq=>.leaf (.sb !b)|_=>.fail)
   | none=>.fail
  | none=>.fail
 | x,y=>match asInt x,asInt y with
  | some (k,a),some (j,b)=>(match op with
   | .shl=>dF .shl k a b (isLit y)
   | .shr=>dF .shr k a b (isLit y)
   | op=>if k=j then wH op k a b (isLit y) else .fail)
  | _,_=>match JF x,JF y with
   | some a,some b=>wS op a b
   | _,_=>match asBool x,asBool y with
    | some a,some b=>if E.isBool t then (match op with | .eql=>.leaf (.sb (a==b)) | .neq=>.leaf (.sb (!(a==b)))|_=>.fail) else .fail
    | _,_=>.fail
def unT (op:UnOp) (x:SV U.Ty):Tr U (SV U.Ty):=
 match op,asInt x,asBool x with
 | .neg,some (k,n),_=>.leaf (.si k (k.wrap (0 - n)))
 | .xor,some (k,n),_=>.leaf (.si k (bits .xor k (if k.signed then -1 else k.max) n))
 | .not,_,some b=>.leaf (.sb !b)
 | _,_,_=>.fail
def XJ (isMax:Bool) (k:IntKind):Int->List (SV U.Ty)->Option Int
 | a,[]=>some a
 | a,x::rest=>match asInt x with
  | some (j,b)=>if k=j then XJ isMax k (if isMax then (if b>a then b else a) else (if b<a then b else a)) rest else none
  | none=>none
def bT (isMax:Bool):List (SV U.Ty)->Tr U (SV U.Ty)
 | x::rest=>match asInt x with
  | some (k,a)=>(match XJ isMax k a rest with|some r=>.leaf (.si k r)|none=>.fail)
  | none=>.fail
 | []=>.fail
def PW (cs:List (SV U.Ty)):List (Nat×SV U.Ty)->(Nat->Option (Nat×Nat))->Option (List (SV U.Ty))
 | [],_=>some cs
 | (i,v)::rest,place=>
  match place i with
  | none=>none
  | some (off,size)=>if (cellsS v).length==size&&decide (off+size<=cs.length)&&okS v then PW (cs.take off++cellsS v++cs.drop (off+size)) rest place else none
def uP (E:Env) (t:TypeId) (parts:List (Nat×SV U.Ty)):Option (SV U.Ty):=
 match E.ti t with
 | some i=>match i.zero with
  | some z=>
   if okV z then
    match i.ty with
    | .struct fs=>if fs.all fun x=>(E.ti x.2).isSome then (PW (cellsS (JJ U z)) parts (placesOf E fs)).map .agg else none
    | .array _ e=>match E.ti e with
     | some ei=>(PW (cellsS (JJ U z)) parts (fun i=>some (i*ei.size,ei.size))).map .agg
     | none=>none
    | _=>none
   else none
  | none=>none
 | none=>none
def lN (E:Env) (k:Nat) (H:BF U) (t:TypeId) (n:Nat) (parts:List (Nat×SV U.Ty)):Tr U (SV U.Ty×BF U):=
 match E.ti t with
 | some ⟨.slice e,_,_,_⟩=>match E.ti e with
  | some ei=>match ei.zero with
   | some z=>(Ny H (parts.map (·.2))).andThen fun vs=>match PS e vs with
    | some ys=>.when ((n*ei.size<=16777216/\0<ei.size/\z.cells.length=ei.size/\okV z=true)/\parts.map (·.1)=List.range n/\vs.all (fun v=>(cellsS v).length==ei.size)=true/\U.Au e=ei.size)
      (.leaf (.all k n,ND (OY H ((parts.map (·.2)).flatMap KX)) k (.row e ys none)))
    | none=>.fail
   | none=>.fail
  | none=>.fail
 | _=>.fail
def nT (E:Env) (s:TypeId) (x:SV U.Ty) (f:Nat):Option (SV U.Ty):=
 match E.ti s with
 | some ⟨.struct fs,_,_,_⟩=>match fs[f]? with
  | some (o,t)=>match E.size t with
   | some sz=>if sz=0 then none else match x with
    | .ptr id j off tot=>some (.ptr id j (off+o) tot)
    | .CY d xs j off=>some (.CY d xs j (off+o))
    | .raw (.CY d xs j off)=>some (.raw (.CY d xs j (off+o)))
    | _=>none
   | none=>none
  | none=>none
 | _=>none
def uV (E:Env) (s:TypeId) (x:SV U.Ty) (f:Nat):Option (SV U.Ty):=
 match E.ti s,x with
 | some ⟨.struct fs,_,_,_⟩,.agg cs=>match fs[f]? with
  | some (o,t)=>match E.ti t with|some i=>Pe cs o i.size i.isAgg|none=>none
  | none=>none
 | _,_=>none
def dE (H:BF U) (x:SV U.Ty) (e:Nat):Tr U (List (U.Ty e)):=
 let go (t:Nat) (xs:List (U.Ty t)):Tr U (List (U.Ty e)):=if h:t=e then .leaf (h▸xs) else .fail
 match x with
 | .nil _=>.leaf []
 | .sl t xs=>go t xs
 | .Cj t xs=>go t xs
 | .all id n=>rowAt H id n fun t xs _=>go t xs
 | .Be id off len tot=>rowAt H id tot fun t xs _=>.chk (decide (off+len<=tot)) (go t ((xs.drop off).take len))
 | _=>.fail
def sV (E:Env) (k:Nat) (H:BF U) (t u:TypeId) (s x:SV U.Ty):Tr U (SV U.Ty×BF U):=
 match E.ti t with
 | some ⟨.slice e,_,_,_⟩=>match E.ti e with
  | some ei=>.when (u=t/\0<ei.size/\ei.zok=true/\U.Au e=ei.size) ((dE H x e).andThen fun ys=>
    match s with
    | .all id n=>rowAt H id n fun t' xs fl=>if h:t' = e then
      .chk (decide ((n+ys.length)*ei.bytes<=lim)&&decide (n+ys.length<=maxLen))
       (.leaf (.all id ((h▸xs:List (U.Ty e))++ys).length,H.set id (.row e ((h▸xs:List (U.Ty e))++ys) fl)))
     else .fail
    | .Be id off len tot=>rowAt H id tot fun t' xs fl=>if h:t' = e then
      .chk (decide (off=0)&&(decide (fl.getD 0<=len)&&(decide (len<tot)&&decide (len+ys.length<=tot))))
       (.leaf (.Be id 0 (len+ys.length) tot,H.set id (.row e ((h▸xs:List (U.Ty e)).take len++ys++(h▸xs:List (U.Ty e)).drop (len+ys.length)) fl)))
     else .fail
    | .nil _=>.chk (decide (ys.length*ei.bytes<=lim)&&decide (ys.length<=maxLen)) (.leaf (.all k ys.length,ND H k (.row e ys none)))
    | .Cj t' xs=>if h:t' = e then
      .chk (decide ((xs.length+ys.length)*ei.bytes<=lim)&&decide (xs.length+ys.length<=maxLen))
       (.br ys.isEmpty (.leaf (.Cj t' xs,H)) (.leaf (.all k ((h▸xs:List (U.Ty e))++ys).length,ND H k (.row e ((h▸xs:List (U.Ty e))++ys) none))))
     else .fail
    | _=>.fail)
  | none=>.fail
 | _=>.fail
def vJ (E:Env) (H:BF U) (t u:TypeId) (d x:SV U.Ty):Tr U (SV U.Ty×BF U):=
 match E.ti t with
 | some ⟨.slice e,_,_,_⟩=>match E.ti e with
  | some ei=>.when (U.Au e=ei.size) ((dE H x e).andThen fun ys=>
    match d with
    | .all id n=>rowAt H id n fun t' xs fl=>if h:t' = e then
      .when (fl.getD 0=0) (.leaf (.si .i64 (min ys.length xs.length:Nat),H.set id (.row e (ys.take xs.length++(h▸xs:List (U.Ty e)).drop ys.length) fl)))
     else .fail
    | _=>.fail)
  | none=>.fail
 | _=>.fail
def wV (x:SV U.Ty):Option Nat:=
 match x with
 | .nil _=>some 0
 | .sl _ xs=>some xs.length
 | .Cj _ xs=>some xs.length
 | .lit (.string s)=>some s.size
 | .ss s=>some s.size
 | _=>none
def La {L:Type} (H:BF U) (x:SV U.Ty) (k:Nat->Tr U L):Tr U L:=
 match x with
 | .all id n=>rowAt H id n fun _ _ _=>k n
 | .Be id _ len tot=>rowAt H id tot fun _ _ _=>k len
 | x=>match wV x with|some n=>k n|none=>.fail
def Q8 (x:SV U.Ty):Bool:=(JF x).isSome
def rF (E:Env) (t:TypeId) (x:SV U.Ty):Bool:=
 if Q8 x then E.isStr t else match E.ti t with|some ⟨.slice _,_,_,_⟩=>true|_=>false
def We {L:Type} (x:Option (SV U.Ty)) (hi dflt:Nat) (k:Nat->Tr U L):Tr U L:=
 match x with
 | none=>k dflt
 | some v=>match asInt v with
  | some (_,n)=>.chk (decide (0<=n/\n<=hi)) (k n.toNat)
  | none=>.fail
def uQ (E:Env) (H:BF U) (x:SV U.Ty) (n:Nat):Bool:=
 match x with
 | .nil _=>true
 | .sl t _=>U.Au t==n
 | .Cj t _=>U.Au t==n
 | .all id _ | .Be id _ _ _=>match H[id]? with|some (.row t _ _)=>U.Au t==n|_=>false
 | _=>false
def oM (E:Env) (H:BF U) (t:TypeId) (x:SV U.Ty):Bool:=
 if Q8 x then E.isStr t else match E.ti t with
  | some ⟨.slice e,_,_,_⟩=>match E.ti e with|some ei=>uQ E H x ei.size|none=>false
  | _=>false
def sliceT (E:Env) (H:BF U) (t:TypeId) (x:SV U.Ty) (lo hi mx:Option (SV U.Ty)):Tr U (SV U.Ty×BF U):=
 if oM E H t x then
  La H x fun n=>We hi n n fun h=>We lo h 0 fun l=>
   match mx with
   | some m=>(match hi with
    | none=>.fail
    | some _=>We (some m) n n fun k=>.chk (k==h)
     (match x with
      | .sl e xs=>.leaf (.Cj e ((xs.drop l).take (h - l)),H)
      | .Cj e xs=>.leaf (.Cj e ((xs.drop l).take (h - l)),H)
      | .all id n=>rowAt H id n fun e xs _=>.leaf (.Cj e ((xs.drop l).take (h - l)),OY H [id])
      | _=>.fail))
   | none=>match x with
    | .nil e=>.leaf (.nil e,H)
    | .sl e xs=>.leaf (.sl e ((xs.drop l).take (h - l)),H)
    | .Cj e xs=>.leaf (.sl e ((xs.drop l).take (h - l)),H)
    | .all id n=>(match lo,hi with
     | none,none=>.leaf (.all id n,H)
     | _,_=>.leaf (.Be id l (h - l) n,H))
    | .Be id off _ tot=>.leaf (.Be id (off+l) (h - l) tot,H)
    | x=>match JF x with
     | some s=>.leaf (.ss (s.extract l h),H)
     | none=>.fail
 else .fail
def qC (x:Option (SV U.Ty)) (n:Nat):Option Nat:=match x with
 | none=>some n
 | some (.lit (.int _ h))=>if 0<=h/\h<=n then some h.toNat else none
 | _=>none
def tJ (E:Env) (H:BF U) (n e:Nat) (x:SV U.Ty) (lo hi mx:Option (SV U.Ty)):Tr U (SV U.Ty×BF U):=
 match x,lo,qC hi n,mx with
 | .ptr id i off tot,none,some m,none=>match H[id]? with
  | some (.var e' k (.agg cs))=>match PS e cs with
   | some ys=>.when ((i=0/\off=0/\tot=1/\cs.length=n/\n<=maxLen)/\E.size e=some 1/\U.Au e=1/\cs.all (fun c=>(TY c).isSome)=true) (.leaf (.sl e (ys.take m),H.set id (.fvar e' k (.agg cs))))
   | none=>.fail
  | _=>.fail
 | _,_,_,_=>.fail
def eF {L:Type} {t:Nat} (xs:List (U.Ty t)):Nat->Nat->(List Value->Tr U L)->Tr U L
 | _,0,k=>k []
 | i,n+1,k=>.bind t xs[i]? fun x=>match TY (U.encS t x) with|some v=>eF xs (i+1) n fun vs=>k (v::vs)|none=>.fail
def wC (E:Env) (t:TypeId) (x:SV U.Ty):Tr U (SV U.Ty):=
 match E.ti t,x with
 | some ⟨.array n e,_,_,_⟩,.sl t' xs=>.when (E.size e=some 1/\U.Au t' = 1/\0<n) (eF xs 0 n fun vs=>.leaf (.raw (.CY n [.agg (vs.map .lit)] 0 0)))
 | _,_=>.fail
def QT {L:Type} (n:Int) (lit:Bool) (len:Nat) (k:Nat->Tr U L):Tr U L:=
 if lit then (if 0<=n/\n<len then k n.toNat else .fail)
 else (List.range len).foldr (fun(i:Nat) rest=>.br (n==(i:Int)) (k i) rest) .fail
def oU (E:Env) (H:BF U) (t:TypeId) (x i:SV U.Ty):Tr U (SV U.Ty):=
 match asInt i,E.ti t with
 | some (_,n),some ti=>
  match ti.ty with
  | .slice el=>(match x with
   | .sl et xs=>.when (E.size el=some (U.Au et)) (.chk (decide (0<=n/\n<xs.length)) (.leaf (.CY et xs n.toNat 0)))
   | .Cj et xs=>.when (E.size el=some (U.Au et)) (.chk (decide (0<=n/\n<xs.length)) (.leaf (.CY et xs n.toNat 0)))
   | .all id m=>rowAt H id m fun et xs _=>.when (E.size el=some (U.Au et)) (.chk (decide (0<=n/\n<m)) (.leaf (.ptr id n.toNat 0 m)))
   | .Be id off len tot=>rowAt H id tot fun et xs _=>.when (E.size el=some (U.Au et)) (.chk (decide (0<=n/\n<len)) (.leaf (.ptr id (off+n.toNat) 0 tot)))
   | _=>.fail)
  | .array len e=>(match E.size e with
   | none=>.fail
   | some sz=>match x with
    | .ptr id j off tot=>QT n (isLit i) len fun m=>.leaf (.ptr id j (off+m*sz) tot)
    | .CY d xs j off=>QT n (isLit i) len fun m=>.leaf (.CY d xs j (off+m*sz))
    | .raw (.CY d [.agg cs] 0 0)=>if (decide (sz=1)&&(cs.all I9 && !isLit i))=true then .chk (decide (0<=n/\n<len)) (.leaf (.Qv d cs n.toNat))
     else QT n (isLit i) len fun m=>.leaf (.raw (.CY d [.agg cs] 0 (0+m*sz)))
    | .raw (.CY d xs j off)=>QT n (isLit i) len fun m=>.leaf (.raw (.CY d xs j (off+m*sz)))
    | _=>.fail)
  | _=>.fail
 | _,_=>.fail
def uT (E:Env) (t:TypeId) (x i:SV U.Ty):Tr U (SV U.Ty):=
 match asInt i with
 | some (_,n)=>
  match E.ti t,x with
  | some ⟨.array len e,_,_,_⟩,.agg cs=>match E.ti e with
   | some ei=>QT n (isLit i) len fun m=>.opt (Pe cs (m*ei.size) ei.size ei.isAgg)
   | none=>.fail
  | some ⟨.scalar,_,_,_⟩,x=>match JF x with
   | some s=>if E.isStr t then .chk (decide (0<=n/\n<s.size)) (.leaf (.si .u8 (s.get! n.toNat).toNat)) else .fail
   | none=>.fail
  | _,_=>.fail
 | none=>.fail
def MP (U:Cm) (t:Nat) (xs:List (U.Ty t)):Bool:=match bytesOf (xs.map (U.enc t)) with|some bs=>decide (bs.length<=maxLen)|none=>false
def strOf (U:Cm) (t:Nat) (xs:List (U.Ty t)):ByteArray:=⟨((bytesOf (xs.map (U.enc t))).getD []).toArray⟩
def TM (t:Nat) (xs:List (U.Ty t)):Tr U (SV U.Ty):=.when (U.Au t=1) (.chk (MP U t xs) (.leaf (.ss (strOf U t xs))))
def tX (E:Env) (H:BF U) (src dst:TypeId) (x:SV U.Ty):Tr U (SV U.Ty):=
 .when ((E.isStr dst&&E.isBytes src)=true) (match x with
  | .nil _=>.leaf (.ss ⟨#[]⟩)
  | .sl t xs=>TM t xs
  | .Cj t xs=>TM t xs
  | .all id n=>rowAt H id n fun t xs _=>TM t xs
  | .Be id off len tot=>rowAt H id tot fun t xs _=>.chk (decide (off+len<=tot)) (TM t ((xs.drop off).take len))
  | _=>.fail)
def wB (E:Env) (H:BF U) (src dst:TypeId) (x:SV U.Ty):Tr U (SV U.Ty):=
 match asInt x with
 | some (_,n)=>(match E.kind dst with
  | some k=>if (E.ti src).isSome then .leaf (.si k (k.wrap n)) else .fail
  | none=>.fail)
 | none=>match JF x with
  | some s=>if E.isStr src&&E.isStr dst then .leaf (.ss s) else .fail
  | none=>tX E H src dst x
def fA (U:Cm) (e:Nat) (st:ByteArray):Bool:=st.data.toList.all fun b=>(U.Gf e (.si .u8 b.toNat)).isSome
def MI (U:Cm) (e:Nat) (st:ByteArray):List (U.Ty e):=st.data.toList.filterMap fun b=>U.Gf e (.si .u8 b.toNat)
def uU (E:Env) (k:Nat) (H:BF U) (dst:TypeId) (x:SV U.Ty):Tr U (SV U.Ty×BF U):=
 match JF x,E.ti dst with
 | some st,some ⟨.slice e,_,_,_⟩=>.when (E.size e=some 1/\U.Au e=1) (.chk (fA U e st) (.leaf (.all k (MI U e st).length,ND H k (.row e (MI U e st) none))))
 | _,_=>.fail
abbrev IA (U:Cm):=FuncId->List (SV U.Ty)->BF U->Tr U (SV U.Ty×BF U)
def eU (x:SV U.Ty):Option (Int×Bool):=match x with | .lit (.int _ n)=>some (n,true) | .si _ n=>some (n,false)|_=>none
def Iu (H:BF U) (T:Tr U (SV U.Ty)):Tr U (SV U.Ty×BF U):=T.andThen fun v=>.leaf (v,H)
def vN (E:Env) (M:IA U) (k:Nat) (H:BF U) (s:List (SV U.Ty)) (c:Call):Tr U (SV U.Ty×BF U):=
 match c.callee with
 | .builtin b=>(match b,c.args.toList.map (DK E s),c.argTypes.toList with
  | .len,[x],[t]=>if rF E t x then La H x fun n=>.leaf (.si .i64 n,H) else .fail
  | .append,[a,x],[t,u]=>sV E k H t u a x
  | .copy,[d,x],[t,u]=>vJ E H t u d x
  | .min,args,_=>Iu H (bT false args)
  | .max,args,_=>Iu H (bT true args)
  | _,_,_=>.fail)
 | .value f=>(match DK E s f with
  | .fn g first caps=>M g (first++c.args.toList.map (DK E s)++caps) H
  | _=>.fail)
 | _=>.fail
def OX {L:Type} (kd:IntKind) (n:Int) (lit:Bool) (z:Tr U L) (f:SV U.Ty->Tr U L):List (SV U.Ty)->Tr U L
 | []=>z
 | .lit (.int k a)::v::r=>.when (k=kd) (if lit then (if n=a then f v else OX kd n lit z f r) else .br (n==a) (f v) (OX kd n lit z f r))
 | _=>.fail
def vX (E:Env) (t:TypeId) (ok:Bool) (m x:SV U.Ty):Tr U (SV U.Ty):=
 match E.ti t,m,asInt x with
 | some ⟨.map k e,_,_,_⟩,.N9 kvs,some (kd,n)=>.when (E.kind k=some kd)
  (OX kd n (isLit x) (match E.ti e with|some ei=>(match ei.zero with|some z=>.leaf (if ok then .BG [JJ U z,.lit (.bool false)] else JJ U z)|none=>.fail)|none=>.fail)
   (fun v=>.leaf (if ok then .BG [v,.lit (.bool true)] else v)) kvs)
 | _,_,_=>.fail
def XI (E:Env) (M:IA U) (k:Nat) (H:BF U) (s:List (SV U.Ty)) (o:Oper):Tr U (SV U.Ty×BF U):=
 match o.op with
 | .move x=>.leaf (DK E s x,H)
 | .assign (.const (.slice none 0 0))=>match E.ti o.type with
  | some ⟨.slice e,_,_,_⟩=>.when (U.Au e=(E.size e).getD 0) (.leaf (.all k 0,ND H k (.row e [] none)))
  | _=>.fail
 | .assign x=>.leaf (DK E s x,H)
 | .pick c a b=>(match DK E s c with
  | .lit (.bool true)=>.leaf (DK E s a,H)
  | .lit (.bool false)=>.leaf (DK E s b,H)
  | .sb t=>(match asBool (DK E s a),asBool (DK E s b) with
   | some x,some y=>.leaf (.sb (cond t x y),H)
   | _,_=>.br t (.leaf (DK E s a,H)) (.leaf (DK E s b,H)))
  | _=>.fail)
 | .alloc t=>match E.ti t with
  | some i=>match i.zero with|some z=>.when (z.cells.length=i.size/\okV z=true) (.leaf (.ptr k 0 0 1,ND H k (.var t i.size (JJ U z))))|none=>.fail
  | none=>.fail
 | .box t x=>match E.ti t with
  | some i=>.when ((cellsS (DK E s x)).length=i.size/\okS (DK E s x)=true) (.leaf (.ptr k 0 0 1,ND H k (.var t i.size (DK E s x))))
  | none=>.fail
 | .build t parts=>Iu H (.opt (uP E t (parts.toList.map fun(i,x)=>(i,DK E s x))))
 | .buildSlice t n parts=>lN E k H t n (parts.toList.map fun(i,x)=>(i,DK E s x))
 | .load t a=>Iu H (loadT E H t (DK E s a))
 | .store t a v=>(storeT E H t (DK E s a) (DK E s v)).andThen fun H' =>.leaf (.no,H')
 | .nilCheck x=>(match DK E s x with
  | .ptr a b c d=>.leaf (.ptr a b c d,H)
  | .CY a b c d=>.leaf (.CY a b c d,H)
  | .raw (.CY a b c d)=>.leaf (.raw (.CY a b c d),H)
  | .fn a b c=>.leaf (.fn a b c,H)
  | _=>.fail)
 | .binOp op t x y _=>Iu H ((wJ E op t (DK E s x) (DK E s y)).andThen fun v=>.leaf (if isLit (DK E s x)&&isLit (DK E s y) then vZ v else v))
 | .unOp op _ x=>Iu H (unT op (DK E s x))
 | .convert src dst x=>if E.isStr src&&E.isBytes dst then uU E k H dst (DK E s x) else Iu H (wB E H src dst (DK E s x))
 | .makeSlice t l c=>match E.ti t with
  | some ⟨.slice e,_,_,_⟩=>(match eU (DK E s l),eU (DK E s c),E.ti e with
   | some (n,_),some (m,_),some ei=>(match ei.zero with
    | some z=>(match U.Gf e (JJ U z) with
     | some y=>.when (0<ei.size/\z.cells.length=ei.size/\okV z=true/\U.Au e=ei.size)
       (.chk (decide (0<=n/\n<=m/\m.toNat*ei.bytes<=lim/\m<=maxLen)) (.leaf (.all k (List.replicate n.toNat y).length,ND H k (.row e (List.replicate n.toNat y) none))))
     | none=>.fail)
    | none=>.fail)
   | _,_,_=>.fail)
  | _=>.fail
 | .slice t x lo hi mx=>match E.ti t with
  | some ⟨.array n e,_,_,_⟩=>tJ E H n e (DK E s x) (lo.map (DK E s)) (hi.map (DK E s)) (mx.map (DK E s))
  | _=>sliceT E H t (DK E s x) (lo.map (DK E s)) (hi.map (DK E s)) (mx.map (DK E s))
 | .sliceToArrayPointer t x=>Iu H (wC E t (DK E s x))
 | .fieldAddr t x f=>Iu H (.opt (nT E t (DK E s x) f))
 | .field t x f=>Iu H (.opt (uV E t (DK E s x) f))
 | .indexAddr t x i=>Iu H (oU E H t (DK E s x) (DK E s i))
 | .index t x i=>Iu H (uT E t (DK E s x) (DK E s i))
 | .extract x i=>(match DK E s x with | .BG vs=>Iu H (.opt vs[i]?)|_=>.fail)
 | .lookup t m x ok=>Iu H (vX E t ok (DK E s m) (DK E s x))
 | .makeFunc (.func f) first caps=>.leaf (.fn f (first.toList.map (DK E s)) (caps.toList.map (DK E s)),H)
 | .call c=>vN E M k H s c
 | _=>.fail
def stepT (E:Env) (M:IA U) (ops:Array Oper) (k i:Nat) (st:D9 U):Tr U (D9 U):=
 match ops[i]? with
 | none=>.leaf st
 | some o=>
  let run (st:D9 U):Tr U (D9 U):=(XI E M k st.H st.s o).andThen fun r=>.leaf ⟨Py st.s o.dst r.1,r.2⟩
  let skip (st:D9 U):Tr U (D9 U):=.leaf ⟨Py st.s o.dst .no,st.H⟩
  match o.guard with
  | none=>run st
  | some (j,want)=>
   match (ops[j]?).bind (·.dst) with
   | none=>.fail
   | some d=>(match st.s.getD d .und with
    | .no=>skip st
    | .lit (.bool true)=>if want then run st else skip st
    | .lit (.bool false)=>if want then skip st else run st
    | .sb b=>.br b (if want then run ⟨st.s.set d (.lit (.bool true)),st.H⟩ else skip ⟨st.s.set d (.lit (.bool true)),st.H⟩)
      (if want then skip ⟨st.s.set d (.lit (.bool false)),st.H⟩ else run ⟨st.s.set d (.lit (.bool false)),st.H⟩)
    | _=>.fail)
def opsT (E:Env) (M:IA U) (ops:Array Oper):List Nat->D9 U->Tr U (D9 U)
 | [],st=>.leaf st
 | i::rest,st=>(stepT E M ops st.H.length i st).andThen (opsT E M ops rest)
def P9:SV U.Ty->List Nat
 | .Be id _ _ _=>[id]
 | .all id _=>[id]
 | .ptr id _ _ _=>[id]
 | .raw v=>Dv v
 | _=>[]
def uO:SV U.Ty->List Nat
 | .agg cs=>cs.flatMap P9
 | .raw v=>Wy v
 | v=>P9 v
def Wq:SV U.Ty->List Nat
 | .agg cs=>cs.flatMap P9
 | .fn _ a b=>(a++b).flatMap uO
 | .raw v=>DI v
 | v=>P9 v
def Z7q:SV U.Ty->Bool | .fn _ _ _=>true | .raw v=>dZ v|_=>false
def tZ (E:Env):SV U.Ty->Bool
 | .fn g a b=>Pg E g&&(a++b).all (fun v=>!Z7q v)
 | _=>false
def tV (E:Env) (s:List (SV U.Ty)) (o:Oper):Bool:=
 match o.op with
 | .call c=>(match c.callee with
  | .value (.tmp t)=>!(E.quiet&&o.type != 0)||tZ E (s.getD t .und)
  | _=>true)
 | _=>true
def Sj (E:Env) (s:List (SV U.Ty)) (o:Oper):List Nat:=o.op.operands.toList.flatMap fun x=>Wq (DK E s x)
def Z7n:Jt U.Ty->Bool | .dead=>true|_=>false
def SL (E:Env) (s:List (SV U.Ty)) (o:Oper):SV U.Ty:=match JK o with|some a=>DK E s a|_=>.no
def sS (H:BF U) (a:SV U.Ty) (k:Nat):Bool:=match a with
 | .ptr id _ _ tot=>id==k&&(match H[id]? with|some (.var _ _ _)=>tot==1|_=>false)
 | .all id _=>id==k&&(match H[id]? with|some (.row _ _ _)=>true|_=>false)
 | _=>false
def WX (base:Nat) (s0:List (SV U.Ty)):Nat⊕Nat->Option Nat
 | .inl j=>some (base+j)
 | .inr d=>match s0.getD d .und with | .ptr id _ _ _=>some id | .all id _=>some id|_=>none
def vW (E:Env) (ms:List Nat) (lt:List (Nat×(Nat⊕Nat))) (s0:List (SV U.Ty)) (base i:Nat) (s:List (SV U.Ty)) (H:BF U) (o:Oper):Bool:=
 lt.all fun p=>match WX base s0 p.2 with
  | none=>false
  | some k=>if p.1=i then sS H (SL E s o) k else !needs E o||(linked ms p.1 i || !(Sj E s o).contains k)
def dY (E:Env) (ops:Array Oper) (base:Nat) (s0:List (SV U.Ty)) (o:Oper):Option Nat:=match o.op with
 | .load _ (.tmp d)=>(rootOf E ops 12 d).bind (WX base s0)
 | _=>none
def uX (E:Env) (ops:Array Oper) (ms:List Nat) (lt:List (Nat×(Nat⊕Nat))) (s0:List (SV U.Ty)) (base i:Nat) (s:List (SV U.Ty)) (o:Oper):Bool:=
 (List.range ops.size).all fun j=>match ops[j]? with
  | none=>true
  | some oj=>linked ms i j||((!(isApp o&&Ia oj)||(lt.any (fun p=>p.1==i)||(match dY E ops base s0 oj,SL E s o with|some n,.all id _=>id != n|_,_=>false))) &&
    (!(Ia o&&isApp oj)||(lt.any (fun p=>p.1==j)||(match dY E ops base s0 o with|some n=>(Sj E s o).all (fun i=>i==n)|none=>false))))
def Z74:Jt U.Ty->Bool | .dead=>true | .var _ _ _=>true|_=>false
def eH (ops:Array Oper) (base:Nat) (H:BF U):Bool:=
 (List.range ops.size).all fun j=>match ops[j]? with|some oj=>!NU oj||(match H[base+j]? with|some b=>Z74 b|none=>false)|none=>true
def uF (E:Env) (M:IA U) (ops:Array Oper) (ms:List Nat) (lt:List (Nat×(Nat⊕Nat))) (s0:List (SV U.Ty)) (base m i:Nat) (st:D9 U):Tr U (D9 U):=
 match ops[i]? with
 | none=>.leaf st
 | some o=>
  .when ((Sj E st.s o).all (fun id=>decide (id<base)||(decide (base+m<=id)&&Sm E ops ms i)||(decide (id<base+m)&&(ms.getD i 0).testBit (id - base)))=true) (.when ((tV E st.s o&&uX E ops ms lt s0 base i st.s o&&vW E ms lt s0 base i st.s st.H o&&(!Hu E o||(decide (base+m<=st.H.length)&&(!H5 E o||eH ops base st.H))))=true)
   (if Bd E o = .a then
    match st.H[base+i]? with
    | some b=>if Z7n b then stepT E M ops (base+i) i st else .fail
    | none=>.fail
    else stepT E M ops st.H.length i st))
def WN (E:Env) (M:IA U) (ops:Array Oper) (ms:List Nat) (lt:List (Nat×(Nat⊕Nat))) (s0:List (SV U.Ty)) (base m:Nat):List Nat->D9 U->Tr U (D9 U)
 | [],st=>.leaf st
 | i::rest,st=>(uF E M ops ms lt s0 base m i st).andThen (WN E M ops ms lt s0 base m rest)
def dV (E:Env) (M:IA U) (ops:Array Oper) (st:D9 U):Tr U (D9 U):=
 let m:=if ops.any (fun o=>decide (Bd E o = .a)) then ops.size else 0
 WN E M ops (F6 [] ops.toList) (OT E ops) st.s st.H.length m (List.range ops.size) ⟨st.s,st.H++List.replicate m .dead⟩
end
structure D5 (U:Cm) (E:Env):Prop where
 encS:∀t a,AY U (U.encS t a)=U.enc t a
 dec:∀t v a,U.Gf t v=some a->EC (E.rows t) (AY U v)=U.enc t a
 cells:∀t a,(U.enc t a).cells=Aw U (cellsS (U.encS t a))
 nr:∀t a,Cf (U.enc t a)=true
 inj:∀t∈U.keys,∀a b,U.enc t a=U.enc t b->a=b
section
variable {U:Cm}
theorem E5 (xs:List (SV U.Ty)):Aw U xs=xs.map (AY U):=by
 induction xs with
 | nil=>rfl
 | cons x xs ih=>simp [Aw,ih]
theorem Rw (s:List (SV U.Ty)) (t:Nat):(Aw U s).getD t .und=AY U (s.getD t .und):=by
 rw [E5]
 simp only [List.getD,List.getElem?_map]
 cases s[t]?<;>rfl
theorem rG (v:V):AY U (Po U v)=v:=by
 unfold Po
 split<;>rfl
theorem SS (v:V):AY U (JJ U v)=v:=by
 unfold JJ
 split
 ·rename_i cs
  simp only [AY,E5,List.map_map,V.agg.injEq]
  conv=>rhs;rw [<- List.map_id cs]
  apply List.map_congr_left
  intro x _
  exact rG x
 ·exact rG _
theorem FU (E:Env) (s:List (SV U.Ty)) (x:Operand):ev E (Aw U s) x=AY U (DK E s x):=by
 cases x with
 | tmp t=>exact Rw s t
 | const v=>simp only [ev,DK,SS]
 | func f=>rfl
 | global g=>simp only [ev,DK];cases E.EP g<;>rfl
theorem Z6z (E:Env) (s:List (SV U.Ty)) (xs:List Operand):xs.map (ev E (Aw U s))=Aw U (xs.map (DK E s)):=by
 rw [E5 (xs.map (DK E s)),List.map_map]
 apply List.map_congr_left
 intro x _
 exact FU E s x
theorem Z6G (s:List (SV U.Ty)) (d:Option Tmp) (v:SV U.Ty):Aw U (Py s d v)=setSlot (Aw U s) d (AY U v):=by
 unfold Py setSlot
 cases d with
 | none=>rfl
 | some t=>simp only [E5,List.map_set]
theorem Oy (H:BF U):(BI U H).length=H.length:=by simp [BI]
theorem Jn (H:BF U) (i:Nat):(BI U H)[i]? = (H[i]?).map (Ce U):=by simp [BI]
theorem Nu (H:BF U) (i:Nat) (b:Jt U.Ty):BI U (H.set i b)=(BI U H).set i (Ce U b):=by simp [BI,List.map_set]
theorem PE (H:BF U) (k:Nat) (b:Jt U.Ty):BI U (ND H k b)=place (BI U H) k (Ce U b):=by
 unfold ND place
 rw [Oy]
 split
 ·exact Nu H k b
 ·simp [BI]
theorem OE {x:SV U.Ty} (h:okS x=true):okV (AY U x)=true:=by
 cases x<;>simp_all [okS,AY,okV]
 grind
theorem QQ {x:SV U.Ty} (h:okS x=true):(AY U x).cells=Aw U (cellsS x):=by
 cases x<;>simp_all [okS,AY,V.cells,cellsS,Aw]
 grind
theorem Dy {L M:Type} (T:Tr U L) (f:L->Tr U M) (y:M):(T.andThen f).AZ y↔∃x,T.AZ x/\(f x).AZ y:=by
 induction T with
 | leaf l=>simp [Tr.andThen,Tr.AZ]
 | br c a b iha ihb=>
  simp only [Tr.andThen,Tr.AZ,iha,ihb]
  grind
 | bind t o k ih=>
  simp only [Tr.andThen,Tr.AZ,ih]
  grind
 | chk c a ih=>
  simp only [Tr.andThen,Tr.AZ,ih]
  grind
 | fail=>simp [Tr.andThen,Tr.AZ]
theorem MK {L:Type} {o:Option L} {x:L}:(Tr.opt (U:=U) o).AZ x↔o=some x:=by
 cases o<;>simp [Tr.opt,Tr.AZ]
theorem EM {L:Type} {p:Prop} [Decidable p] {a:Tr U L} {x:L}:(Tr.when p a).AZ x↔p/\a.AZ x:=by
 unfold Tr.when
 split<;>simp_all [Tr.AZ]
theorem Gj {L:Type} {H:BF U} {id tot:Nat} {k:(t:Nat)->List (U.Ty t)->Option Nat->Tr U L} {y:L} (h:(rowAt H id tot k).AZ y) :
  ∃t xs fl,H[id]? = some (.row t xs fl)/\xs.length=tot/\(k t xs fl).AZ y/\DY (BI U H) id tot=some (Ce U (.row t xs fl)):=by
 unfold rowAt at h
 split at h
 ·rename_i t xs fl hb
  simp only [Tr.AZ,beq_iff_eq] at h
  refine⟨t,xs,fl,hb,h.1,h.2,?_⟩
  unfold DY
  rw [Jn,hb]
  simp [Ce,h.1]
 ·simp [Tr.AZ] at h
theorem rZ {H:BF U} {x y:SV U.Ty} (h:(Lj H x).AZ y):Fj (BI U H) (AY U x)=some (AY U y):=by
 unfold Lj at h
 split at h<;>(try (simp only [Tr.AZ] at h;subst h;rfl))
 ·obtain⟨t,xs,fl,h1,h2,h3,h4⟩:=Gj h
  simp only [Tr.AZ] at h3
  subst h3
  subst h2
  simp only [AY,Fj,h4]
  simp only [Ce,Nat.zero_add,Nat.le_refl,decide_true,Bool.and_self,if_true,List.drop_zero,Option.some.injEq,V.sl.injEq,true_and]
  exact List.take_of_length_le (by simp)
 ·obtain⟨t,xs,fl,h1,h2,h3,h4⟩:=Gj h
  simp only [Tr.AZ,decide_eq_true_eq] at h3
  obtain⟨h3,rfl⟩:=h3
  simp only [AY,Fj,h4]
  simp [Ce,h3,List.map_take,List.map_drop]
 ·simp [Tr.AZ] at h
theorem ZkI {H:BF U}:∀{xs ys:List (SV U.Ty)},(Qi H xs).AZ ys->JI (BI U H) (Aw U xs)=some (Aw U ys):=by
 intro xs
 induction xs with
 | nil=>intro ys h;simp only [Qi,Tr.AZ] at h;subst h;rfl
 | cons x xs ih=>
  intro ys h
  simp only [Qi,Dy,Tr.AZ] at h
  obtain⟨w,h1,ws,h2,rfl⟩:=h
  simp only [Aw,JI,rZ h1,ih h2]
theorem bQ {H:BF U} {x y:SV U.Ty} (h:(Pj H x).AZ y):Hz (BI U H) (AY U x)=some (AY U y):=by
 unfold Pj at h
 split at h
 ·rename_i cs
  simp only [Dy,Tr.AZ] at h
  obtain⟨ws,h1,rfl⟩:=h
  simp only [AY,Hz,ZkI h1,Option.map_some]
 ·rename_i hne
  have:=rZ h
  unfold Hz
  split
  ·rename_i cs hcs
   exfalso
   cases x<;>simp_all [AY,Lj,Tr.AZ]
  ·exact this
theorem nU {H:BF U}:∀{xs ys:List (SV U.Ty)},(Ny H xs).AZ ys->FC (BI U H) (Aw U xs)=some (Aw U ys):=by
 intro xs
 induction xs with
 | nil=>intro ys h;simp only [Ny,Tr.AZ] at h;subst h;rfl
 | cons x xs ih=>
  intro ys h
  simp only [Ny,Dy,Tr.AZ] at h
  obtain⟨w,h1,ws,h2,rfl⟩:=h
  simp only [Aw,FC,bQ h1,ih h2]
theorem Z5G (x:SV U.Ty):Ea (AY U x)=NR x:=by
 cases x<;>simp [AY,Ea,NR]
theorem rU (x:SV U.Ty):Dh (AY U x)=KX x:=by
 cases x<;>simp [AY,Dh,KX,NR,Ea]
 rename_i cs
 rw [E5,List.flatMap_map]
 simp [Z5G]
theorem pJ (xs:List (SV U.Ty)):(Aw U xs).flatMap Dh=xs.flatMap KX:=by
 rw [E5,List.flatMap_map]
 simp [rU]
theorem Z6c (x:SV U.Ty):Dv (AY U x)=P9 x:=by
 cases x<;>simp [AY,Dv,P9]
theorem ZjQ (x:SV U.Ty):Wy (AY U x)=uO x:=by
 cases x<;>simp [AY,Wy,uO,P9,Dv]
 rename_i cs
 rw [E5,List.flatMap_map]
 simp [Z6c]
theorem ZjG (x:SV U.Ty):DI (AY U x)=Wq x:=by
 cases x with
 | agg cs=>
  simp only [AY,DI,Wq]
  rw [E5,List.flatMap_map]
  simp [Z6c]
 | fn f a b=>
  simp only [AY,DI,Wq]
  rw [E5,E5,<- List.map_append,List.flatMap_map]
  simp [ZjQ]
 | _=>simp [AY,DI,Wq,P9,Dv]
theorem SG (H:BF U):∀(ids:List Nat),(∀i∈ids,∃t xs fl,H[i]? = some (.row t xs fl))->BI U (OY H ids)=bump (BI U H) ids:=by
 intro ids
 induction ids generalizing H with
 | nil=>intro _;rfl
 | cons i is ih=>
  intro h
  simp only [OY,bump]
  have hmod:BI U (H.modify i bD)=(BI U H).modify i fun b=>{ b with floor:=b.xs.length }:=by
   apply List.ext_getElem?
   intro j
   simp only [BI,List.getElem?_map,List.getElem?_modify]
   by_cases hij:i=j
   ·subst hij
    obtain⟨t,xs,fl,hb⟩:=h i (by simp)
    simp [hb,bD,Ce]
   ·simp [hij]
  rw [ih,hmod]
  intro j hj
  obtain⟨t,xs,fl,hb⟩:=h j (by simp [hj])
  by_cases hij:i=j
  ·subst hij
   exact⟨t,xs,some xs.length,by simp [List.getElem?_modify,hb,bD]⟩
  simp_all
theorem oO {H:BF U} {x y:SV U.Ty} (h:(Lj H x).AZ y):∀i∈NR x,∃t xs fl,H[i]? = some (.row t xs fl):=by
 intro i hi
 unfold Lj at h
 split at h<;>(try (simp [NR] at hi))
 ·obtain⟨t,xs,fl,h1,_⟩:=Gj h
  simp_all
 ·obtain⟨t,xs,fl,h1,_⟩:=Gj h
  simp_all
 ·simp [Tr.AZ] at h
theorem ZgF {H:BF U}:∀{xs ys:List (SV U.Ty)},(Qi H xs).AZ ys->∀i∈xs.flatMap NR,∃t xs fl,H[i]? = some (.row t xs fl):=by
 intro xs
 induction xs with
 | nil=>simp_all
 | cons x xs ih=>
  intro ys h i hi
  simp only [Qi,Dy,Tr.AZ] at h
  obtain⟨w,h1,ws,h2,rfl⟩:=h
  simp only [List.flatMap_cons,List.mem_append] at hi
  rcases hi with hi|hi
  ·exact oO h1 i hi
  ·exact ih h2 i hi
theorem Z5B {H:BF U} {x y:SV U.Ty} (h:(Pj H x).AZ y):∀i∈KX x,∃t xs fl,H[i]? = some (.row t xs fl):=by
 unfold Pj at h
 split at h
 ·simp only [Dy,Tr.AZ] at h
  obtain⟨ws,h1,rfl⟩:=h
  exact ZgF h1
 ·rename_i hne
  intro i hi
  refine oO h i ?_
  cases x<;>simp_all [KX,NR]
  simp [Lj,Tr.AZ] at h
theorem Z1e {H:BF U}:∀{xs ys:List (SV U.Ty)},(Ny H xs).AZ ys->∀i∈xs.flatMap KX,∃t xs fl,H[i]? = some (.row t xs fl):=by
 intro xs
 induction xs with
 | nil=>simp_all
 | cons x xs ih=>
  intro ys h i hi
  simp only [Ny,Dy,Tr.AZ] at h
  obtain⟨w,h1,ws,h2,rfl⟩:=h
  simp only [List.flatMap_cons,List.mem_append] at hi
  rcases hi with hi|hi
  ·exact Z5B h1 i hi
  ·exact ih h2 i hi
theorem SH (cs:List (SV U.Ty)) (off n:Nat) (b:Bool):partOf (Aw U cs) off n b=(Pe cs off n b).map (AY U):=by
 unfold partOf Pe
 simp only [E5,List.length_map]
 split
 ·split
  ·simp [AY,E5,List.map_take,List.map_drop]
  ·rfl
 ·simp
theorem Ik (cs:List (SV U.Ty)):(Aw U cs).length=cs.length:=by simp [E5]
theorem Z3I {x:SV U.Ty} {off:Nat} {cs:List (SV U.Ty)} {y:SV U.Ty} (h:bJ x off cs=some y):KI (AY U x) off (Aw U cs)=some (AY U y):=by
 unfold bJ at h
 split at h
 ·rename_i ds
  split at h
  ·rename_i hle
   simp only [Option.some.injEq] at h
   subst h
   simp only [AY,KI,Ik,hle,if_true]
   simp [E5,List.map_take,List.map_drop]
  ·cases h
 ·cases h
 ·rename_i h1 h2
  split at h
  ·rename_i c
   simp only [Option.some.injEq] at h
   subst h
   have:∀ds,AY U x≠.agg ds:=by
    intro ds hds
    cases x<;>simp_all [AY]
   unfold KI
   split
   ·simp_all
   ·simp [Aw]
  ·cases h
theorem qU {H:BF U} {id:Nat} {e n:Nat} {x:SV U.Ty} (h:H[id]? = some (.var e n x)):DY (BI U H) id 1=some (DD false false e n [AY U x]):=by
 unfold DY
 rw [Jn,h]
 simp [Ce,DD]
theorem Z5o {H:BF U} {id tot:Nat} {t:Nat} {xs:List (U.Ty t)} {fl:Option Nat} (h:H[id]? = some (.row t xs fl)) (hl:xs.length=tot):DY (BI U H) id tot=some (Ce U (.row t xs fl)):=by
 unfold DY
 rw [Jn,h]
 simp [Ce,hl]
theorem qV {E:Env} (hU:D5 U E) {e:Nat}:∀{vs:List (SV U.Ty)} {ys:List (U.Ty e)},PS e vs=some ys->(Aw U vs).map (EC (E.rows e))=ys.map (U.enc e)/\∀v∈vs,okS v=true:=by
 intro vs
 induction vs with
 | nil=>intro ys h;simp only [PS,Option.some.injEq] at h;subst h;simp [Aw]
 | cons v vs ih=>
  intro ys h
  simp only [PS] at h
  split at h
  ·rename_i a as h1 h2 h3
   simp only [Option.some.injEq] at h
   subst h
   obtain⟨i1,i2⟩:=ih h3
   refine⟨by simp only [Aw,List.map_cons,i1,hU.dec _ _ _ h2],?_⟩
   simp_all
  ·cases h
theorem Zpd {E:Env} (hU:D5 U E) {t:Nat} {cs:List V} {ys:List (U.Ty t)} {j:Nat} {x:U.Ty t} (hd:PS t (cs.map (Po U))=some ys) (hl:cs.all I9=true) (hx:ys[j]? = some x):cs[j]? = some (AY U (U.encS t x)):=by
 obtain⟨h1,-⟩:=qV hU hd
 have h2:Aw U (cs.map (Po U))=cs:=by
  rw [E5,List.map_map]
  exact(List.map_congr_left fun v _=>rG v).trans (List.map_id cs)
 rw [h2] at h1
 have h3:=congrArg (·[j]?) h1
 simp only [List.getElem?_map,hx,Option.map_some] at h3
 cases hc:cs[j]? with
 | none=>simp [hc] at h3
 | some v=>
  simp only [hc,Option.map_some,Option.some.injEq] at h3
  have hv:=List.all_eq_true.1 hl v (List.mem_of_getElem? hc)
  cases v with
  | lit z=>rw [hU.encS,<- h3];rfl
  | _=>simp [I9] at hv
theorem Z61 {E:Env} (hU:D5 U E) {H:BF U} {t:TypeId} {a y:SV U.Ty} (h:(loadT E H t a).AZ y):Ko E (BI U H) t (AY U a)=some (AY U y):=by
 unfold loadT at h
 split at h
 ·simp [Tr.AZ] at h
 ·rename_i i hi
  unfold Ko
  rw [hi]
  simp only
  split at h
  ·rename_i et xs j off
   simp only [Tr.AZ,MK] at h
   obtain⟨x,hx,hp⟩:=h
   simp only [AY,MX,List.getElem?_map,hx,Option.map_some]
   rw [hU.cells,SH,hp]
   rfl
  ·rename_i id j off tot
   split at h
   ·rename_i e n x hb
    simp only [EM,MK] at h
    obtain⟨⟨rfl,rfl,hok⟩,hp⟩:=h
    simp only [AY,qU hb,DD,MX,List.getElem?_cons_zero]
    rw [QQ hok,SH,hp]
    rfl
   ·rename_i et xs fl hb
    simp only [Tr.AZ,MK,beq_iff_eq] at h
    obtain⟨hl,x,hx,hp⟩:=h
    simp only [AY,Z5o hb hl,Ce,MX,List.getElem?_map,hx,Option.map_some]
    rw [hU.cells,SH,hp]
    rfl
   ·simp [Tr.AZ] at h
  ·rename_i e z
   simp only [MK] at h
   simp only [AY,MX,List.getElem?_cons_zero]
   rw [show (V.lit z).cells=Aw U [SV.lit z] from rfl,SH,h]
   rfl
  ·rename_i e cs off
   simp only [MK] at h
   cases hp:partOf cs off i.size i.isAgg with
   | none=>simp [hp] at h
   | some v=>
    simp only [hp,Option.map_some,Option.some.injEq] at h
    subst h
    simp only [AY,MX,List.getElem?_cons_zero,V.cells,hp,SS]
  ·rename_i d cs off
   split at h
   ·rename_i ys hys
    simp only [EM,Tr.AZ] at h
    obtain⟨⟨h1,h2,h3⟩,x,hx,rfl⟩:=h
    simp only [AY,MX,List.getElem?_cons_zero,V.cells,partOf,h2,Zpd hU hys h3 hx,Bool.false_eq_true,if_false]
   ·simp [Tr.AZ] at h
  ·simp [Tr.AZ] at h
theorem Zkk {E:Env} (hU:D5 U E) {H H' : BF U} {t:TypeId} {a v:SV U.Ty} (h:(storeT E H t a v).AZ H'):KO E (BI U H) t (AY U a) (AY U v)=some (BI U H'):=by
 unfold storeT at h
 split at h
 ·simp [Tr.AZ] at h
 ·rename_i i hi
  unfold KO
  rw [hi]
  simp only
  split at h
  ·rename_i id j off tot
   split at h
   ·rename_i e n x hb
    simp only [EM] at h
    obtain⟨⟨⟨rfl,rfl⟩,hl,hok,hokx⟩,h⟩:=h
    split at h
    ·rename_i x' hx'
     simp only [EM,Tr.AZ] at h
     obtain⟨hok',rfl⟩:=h
     simp only [AY,qU hb,DD,List.getElem?_cons_zero]
     rw [QQ hok,Ik,hl,Z3I hx',OE hok]
     simp [OE hok',Nu,Ce,DD]
    ·simp [Tr.AZ] at h
   ·rename_i et xs fl hb
    simp only [EM,Tr.AZ,Dy,Bool.and_eq_true,beq_iff_eq,decide_eq_true_eq] at h
    obtain⟨⟨hl,hok,hni⟩,⟨hlen,hfl⟩,x,hx,v',hv',h⟩:=h
    split at h
    ·rename_i x' hx'
     split at h
     ·rename_i y hy
      simp only [EM,Tr.AZ] at h
      obtain⟨⟨hok1,hok2⟩,rfl⟩:=h
      simp only [AY,Z5o hb hlen,Ce,List.getElem?_map,hx,Option.map_some]
      rw [QQ hok,Ik,hl,OE hok]
      have hc:(Hz (BI U H) (AY U v))=some (AY U v'):=bQ hv'
      have hsp:=Z3I hx'
      rw [hU.encS] at hsp
      have hdec:=hU.dec et x' y hy
      have hokr:okV (U.enc et y)=true:=by rw [<- hdec,Yv];exact OE hok2
      rw [hc]
      simp only [QQ hok1,hsp,Option.map_some,hdec,hokr,OE hok1,rU,hni,beq_self_eq_true,Bool.and_self,Bool.and_true,decide_eq_true hfl,if_true,Bool.not_true,Bool.or_self,Bool.false_eq_true,if_false]
      rw [Nu,SG H _ (Z5B hv')]
      simp [Ce,List.map_set]
     ·simp [Tr.AZ] at h
    ·simp [Tr.AZ] at h
   ·simp [Tr.AZ] at h
  ·simp [Tr.AZ] at h
end
section
variable {U:Cm}
theorem Ji {x:SV U.Ty} {k:IntKind} {a:Int} (h:asInt x=some (k,a)):AY U x = .lit (.int k a):=by
 unfold asInt at h
 split at h<;>simp_all [AY]
theorem Nj {x:SV U.Ty} {s:ByteArray} (h:JF x=some s):AY U x = .lit (.string s):=by
 unfold JF at h
 split at h<;>simp_all [AY]
theorem QP {x:SV U.Ty} {b:Bool} (h:asBool x=some b):AY U x = .lit (.bool b):=by
 unfold asBool at h
 split at h<;>simp_all [AY]
theorem Z4L {x:SV U.Ty} {n:Int} {l:Bool} (h:eU x=some (n,l)):∃k,AY U x = .lit (.int k n):=by
 unfold eU at h
 split at h<;>simp_all [AY]
theorem Zn2 {op:BinOp} {k:IntKind} {a b:Int} {l:Bool} {y:SV U.Ty} (h:(wH op k a b l).AZ y):(NK op k a b).map V.lit=some (AY U y):=by
 unfold wH at h
 cases op<;>simp only [Tr.AZ] at h<;>(try (subst h;rfl))<;>(try (exact h.elim))
 ·split at h
  ·split at h
   ·simp [Tr.AZ] at h
   ·rename_i hb
    simp only [Tr.AZ] at h
    subst h
    simp [NK,hb,AY]
  ·simp only [Tr.AZ,bne_iff_ne,ne_eq] at h
   obtain⟨hb,rfl⟩:=h
   simp [NK,hb,AY]
 ·split at h
  ·split at h
   ·simp [Tr.AZ] at h
   ·rename_i hb
    simp only [Tr.AZ] at h
    subst h
    simp [NK,hb,AY]
  ·simp only [Tr.AZ,bne_iff_ne,ne_eq] at h
   obtain⟨hb,rfl⟩:=h
   simp [NK,hb,AY]
theorem Z5v {op:BinOp} {k:IntKind} {a b:Int} {l:Bool} {y:SV U.Ty} (h:(dF op k a b l).AZ y):(Nz op k a b).map V.lit=some (AY U y):=by
 unfold dF at h
 split at h
 ·simp [Tr.AZ] at h
 ·rename_i r hr
  have key:∀(hb:¬b<0) (hy:SV.si k r=y),(Nz op k a b).map V.lit=some (AY U y):=by
   intro hb hy
   subst hy
   unfold Nz
   unfold Z6Z at hr
   split at hr<;>simp_all [AY]
  split at h
  ·split at h
   ·simp [Tr.AZ] at h
   ·rename_i hb
    exact key hb h
  ·simp only [Tr.AZ,decide_eq_true_eq] at h
   simp_all
theorem Zn9 {op:BinOp} {x y:ByteArray} {z:SV U.Ty} (h:(wS op x y).AZ z):(TN op x y).map V.lit=some (AY U z):=by
 unfold wS at h
 cases op<;>simp only [Tr.AZ] at h<;>(try (subst h;rfl))<;>(try (exact h.elim))
 obtain⟨hb,rfl⟩:=h
 simp only [decide_eq_true_eq] at hb
 simp [TN,hb,AY]
theorem Zem:∀{ks:List FK} {xs ys:List (SV U.Ty)} {r:Bool},LX ks xs ys=some r->Io ks (Aw U xs) (Aw U ys)=some r:=by
 intro ks
 induction ks with
 | nil=>
  intro xs ys r h
  unfold LX at h
  split at h<;>simp_all [Aw,Io]
 | cons k ks ih=>
  intro xs ys r h
  cases xs with
  | nil=>cases k<;>simp [LX] at h
  | cons x xs=>
   cases ys with
   | nil=>cases k<;>simp [LX] at h
   | cons y ys=>
    cases k with
    | b=>
     simp only [LX] at h
     split at h
     ·rename_i a b r' h1 h2 h3
      simp only [Option.some.injEq] at h
      subst h
      simp only [Aw,QP h1,QP h2,Io,ih h3]
     ·cases h
    | i k=>
     simp only [LX] at h
     split at h
     ·rename_i k1 a k2 b r' h1 h2 h3
      split at h
      ·rename_i hk
       simp only [Option.some.injEq] at h
       subst h
       simp only [Aw,Ji h1,Ji h2,Io,ih h3,hk,and_self,if_true]
      ·cases h
     ·cases h
    | s=>
     simp only [LX] at h
     split at h
     ·rename_i a b r' h1 h2 h3
      simp only [Option.some.injEq] at h
      subst h
      simp only [Aw,Nj h1,Nj h2,Io,ih h3]
     ·cases h
theorem Zmm {E:Env} {op:BinOp} {t:TypeId} {x y z:SV U.Ty} (h:(wJ E op t x y).AZ z):Kv E op t (AY U x) (AY U y)=some (AY U z):=by
 unfold wJ at h
 split at h
 ·rename_i xs ys
  split at h
  ·rename_i ks hks
   split at h
   ·rename_i b hb
    have:=Zem hb
    split at h
    ·simp only [Tr.AZ] at h
     subst h
     simp only [AY,Kv,hks,this,Option.map_some]
    ·simp only [Tr.AZ] at h
     subst h
     simp only [AY,Kv,hks,this,Option.map_some]
    ·simp [Tr.AZ] at h
   ·simp [Tr.AZ] at h
  ·simp [Tr.AZ] at h
 ·split at h
  ·rename_i k a j b ha hb
   rw [Ji ha,Ji hb]
   split at h
   ·exact Z5v h
   ·exact Z5v h
   ·rename_i h1 h2
    split at h
    ·rename_i hk
     have hi:=Zn2 h
     subst hk
     have hb:Kv E op t (.lit (.int k a)) (.lit (.int k b))=(NK op k a b).map V.lit:=by
      cases op<;>first|exact absurd rfl h1|exact absurd rfl h2|simp [Kv]
     simp_all
    ·simp [Tr.AZ] at h
  ·split at h
   ·rename_i a b ha hb
    rw [Nj ha,Nj hb]
    have:=Zn9 h
    unfold Kv
    split<;>simp_all
   ·split at h
    ·rename_i a b ha hb
     rw [QP ha,QP hb]
     split at h
     ·rename_i hE
      split at h
      ·simp only [Tr.AZ] at h
       subst h
       simp [Kv,hE,AY]
      ·simp only [Tr.AZ] at h
       subst h
       simp [Kv,hE,AY]
      ·simp [Tr.AZ] at h
     ·simp [Tr.AZ] at h
    ·simp [Tr.AZ] at h
theorem ZnO {op:UnOp} {x z:SV U.Ty} (h:(unT op x).AZ z):XK op (AY U x)=some (AY U z):=by
 unfold unT at h
 split at h
 ·rename_i k n hk
  simp only [Tr.AZ] at h
  subst h
  rw [Ji hk]
  rfl
 ·rename_i k n hk
  simp only [Tr.AZ] at h
  subst h
  rw [Ji hk]
  rfl
 ·rename_i b _ hb
  simp only [Tr.AZ] at h
  subst h
  rw [QP hb]
  rfl
 ·simp [Tr.AZ] at h
theorem ZoB {isMax:Bool} {k:IntKind}:∀{xs:List (SV U.Ty)} {a r:Int},XJ isMax k a xs=some r->mm isMax k a (Aw U xs)=some (.lit (.int k r)):=by
 intro xs
 induction xs with
 | nil=>intro a r h;simp only [XJ,Option.some.injEq] at h;subst h;rfl
 | cons x xs ih=>
  intro a r h
  simp only [XJ] at h
  split at h
  ·rename_i j b hj
   split at h
   ·rename_i hk
    simp only [Aw,Ji hj,mm,hk,if_true]
    exact hk▸ih h
   ·cases h
  ·cases h
theorem Z4h {isMax:Bool} {xs:List (SV U.Ty)} {z:SV U.Ty} (h:(bT isMax xs).AZ z):OO isMax (Aw U xs)=some (AY U z):=by
 unfold bT at h
 split at h
 ·rename_i x rest
  split at h
  ·rename_i k a hk
   split at h
   ·rename_i r hr
    simp only [Tr.AZ] at h
    subst h
    simp only [Aw,Ji hk,OO,AY]
    exact ZoB hr
   ·simp [Tr.AZ] at h
  ·simp [Tr.AZ] at h
 ·simp [Tr.AZ] at h
def KQ (parts:List (Nat×SV U.Ty)):List (Nat×V):=parts.map fun(i,x)=>(i,AY U x)
theorem Z5U {place:Nat->Option (Nat×Nat)}:∀{parts:List (Nat×SV U.Ty)} {cs cs' : List (SV U.Ty)},PW cs parts place=some cs' -> NQ (Aw U cs) (KQ parts) place=some (Aw U cs'):=by
 intro parts
 induction parts with
 | nil=>intro cs cs' h;simp only [PW,Option.some.injEq] at h;subst h;rfl
 | cons p parts ih=>
  intro cs cs' h
  obtain⟨i,v⟩:=p
  simp only [PW] at h
  split at h
  ·cases h
  ·rename_i off size hp
   split at h
   ·rename_i hc
    simp only [Bool.and_eq_true,beq_iff_eq,decide_eq_true_eq] at hc
    obtain⟨⟨h1,h2⟩,h3⟩:=hc
    have:=ih h
    simp only [KQ,List.map_cons,NQ,hp]
    rw [QQ h3,Ik,h1,Ik,OE h3]
    simp only [beq_self_eq_true,h2,decide_true,Bool.and_self,if_true]
    rw [<- this]
    simp only [KQ,E5,List.map_append,List.map_take,List.map_drop]
   ·cases h
theorem cells_toV' {x:SV U.Ty} (h:∀cs,x≠.raw (.agg cs)):(AY U x).cells=Aw U (cellsS x):=by
 cases x with
 | raw v=>
  cases v with
  | agg cs=>exact absurd rfl (h cs)
  | _=>rfl
 | _=>rfl
theorem Z4A {z:V}:Aw U (cellsS (JJ U z))=z.cells:=by
 have hr:∀cs,JJ U z≠.raw (.agg cs):=by
  intro cs hcs
  unfold JJ at hcs
  split at hcs
  ·cases hcs
  ·rename_i hne
   unfold Po at hcs
   split at hcs<;>(try cases hcs)
   simp at hne
 rw [<- cells_toV' hr,SS]
theorem ZiR {E:Env} {t:TypeId} {parts:List (Nat×SV U.Ty)} {y:SV U.Ty} (h:uP E t parts=some y):Su E t (KQ parts)=some (AY U y):=by
 unfold uP at h
 unfold Su
 split at h
 ·rename_i i hi
  rw [hi]
  split at h
  ·rename_i z hz
   simp only [hz]
   split at h
   ·rename_i hok
    rw [if_pos hok]
    split at h
    ·rename_i fs hty
     simp only [hty]
     split at h
     ·rename_i hall
      rw [if_pos hall]
      cases hf:PW (cellsS (JJ U z)) parts (placesOf E fs) with
      | none=>simp [hf] at h
      | some cs=>
       simp only [hf,Option.map_some,Option.some.injEq] at h
       subst h
       have:=Z5U hf
       rw [Z4A] at this
       simp only [this,Option.map_some,AY]
     ·cases h
    ·rename_i len e hty
     simp only [hty]
     split at h
     ·rename_i ei hei
      simp only [hei]
      cases hf:PW (cellsS (JJ U z)) parts (fun i=>some (i*ei.size,ei.size)) with
      | none=>simp [hf] at h
      | some cs=>
       simp only [hf,Option.map_some,Option.some.injEq] at h
       subst h
       have:=Z5U hf
       rw [Z4A] at this
       simp only [this,Option.map_some,AY]
     ·cases h
    ·cases h
   ·cases h
  ·cases h
 ·cases h
theorem Zg5 (sz:Nat):∀(vs pre post:List V),(∀v∈vs,v.cells.length=sz/\okV v=true)->vs.length<=post.length ->
  Ll (pre++post) sz ((List.range' pre.length vs.length).zip vs)=some (pre++vs++post.drop vs.length):=by
 intro vs
 induction vs with
 | nil=>intro pre post _ _;simp [Ll]
 | cons v vs ih=>
  intro pre post h hl
  cases post with
  | nil=>simp at hl
  | cons p post=>
   simp only [List.length_cons,List.range'_succ,List.zip_cons_cons,Ll]
   obtain⟨h1,h2⟩:=h v (by simp)
   have hset:(pre++p::post).set pre.length v=(pre++[v])++post:=by simp
   have:=ih (pre++[v]) post (fun x hx=>h x (by simp [hx])) (by simpa using hl)
   rw [List.length_append,List.length_singleton] at this
   rw [h1,h2,hset,this]
   simp
theorem Zan {E:Env} (hU:D5 U E) {k:Nat} {H H' : BF U} {t:TypeId} {n:Nat} {parts:List (Nat×SV U.Ty)} {y:SV U.Ty} (h:(lN E k H t n parts).AZ (y,H')) :
  Ot E k (BI U H) t n (KQ parts)=some (AY U y,BI U H'):=by
 unfold lN at h
 unfold Ot
 split at h
 ·rename_i e sz by' z0 hti
  rw [hti]
  simp only
  split at h
  ·rename_i ei hei
   simp only [hei]
   split at h
   ·rename_i z hz
    simp only [Dy] at h
    obtain⟨vs,hvs,h⟩:=h
    split at h
    ·rename_i ys hys
     simp only [EM,Tr.AZ,Prod.mk.injEq] at h
     obtain⟨⟨⟨c1,c2,c3,c4⟩,c5,c6,c7⟩,rfl,rfl⟩:=h
     have hp2:(KQ parts).map (·.2)=Aw U (parts.map (·.2)):=by
      rw [E5];simp [KQ]
     have hp1:(KQ parts).map (·.1)=List.range n:=by rw [<- c5];simp [KQ]
     obtain⟨d1,d2⟩:=qV hU hys
     have hf:=nU hvs
     have hlen:(Aw U vs).length=n:=by
      rw [<- Zax hf,Ik,List.length_map,<- List.length_map (f:=(·.1)) (as:=parts),c5,List.length_range]
     have hlen' : (ys.map (U.enc e)).length=n:=by rw [<- d1,List.length_map,hlen]
     have hempty:(n==0 && !(KQ parts).isEmpty)=false:=by
      cases hn:n with
      | zero=>
       simp_all
      | succ m=>simp
     rw [hz,hp2,hf]
     simp only
     rw [if_pos ⟨c1,c2,c3,c4,hempty⟩,hp1,d1]
     have hfull:=Zg5 ei.size (ys.map (U.enc e)) [] (List.replicate n (EC (E.rows e) z)) (by
      intro v hv
      rw [<- d1] at hv
      obtain⟨w,hw,rfl⟩:=List.mem_map.1 hv
      rw [E5] at hw
      obtain⟨s,hs,rfl⟩:=List.mem_map.1 hw
      have hok:=d2 s hs
      rw [Yv,ZgI]
      refine⟨?_,OE hok⟩
      rw [QQ hok,Ik]
      simpa using List.all_eq_true.1 c6 s hs) (by rw [hlen'];simp)
     rw [hlen'] at hfull
     simp only [List.length_nil,List.nil_append] at hfull
     rw [show List.range n=List.range' 0 n from List.range_eq_range' ..,hfull]
     have hdrop:List.drop n (List.replicate n (EC (E.rows e) z))=[]:=by simp
     rw [hdrop,List.append_nil,PE,pJ,SG H _ (Z1e hvs)]
     simp [AY,Ce,DD,c7]
    ·simp [Tr.AZ] at h
   ·simp [Tr.AZ] at h
  ·simp [Tr.AZ] at h
 ·simp [Tr.AZ] at h
theorem ZaV {E:Env} {s:TypeId} {x y:SV U.Ty} {f:Nat} (h:nT E s x f=some y):Rq E s (AY U x) f=some (AY U y):=by
 unfold nT at h
 unfold Rq
 split at h
 ·rename_i fs sz by' z0 hti
  rw [hti]
  simp only
  split at h
  ·rename_i o t ho
   rw [ho]
   simp only
   split at h
   ·rename_i n hn
    simp only [hn]
    split at h
    ·cases h
    ·rename_i hz
     rw [if_neg hz]
     split at h
     ·simp only [Option.some.injEq] at h;subst h;rfl
     ·simp only [Option.some.injEq] at h;subst h;rfl
     ·simp only [Option.some.injEq] at h;subst h;rfl
     ·cases h
   ·cases h
  ·cases h
 ·cases h
theorem ZjP {E:Env} {s:TypeId} {x y:SV U.Ty} {f:Nat} (h:uV E s x f=some y):Sz E s (AY U x) f=some (AY U y):=by
 unfold uV at h
 unfold Sz
 split at h
 ·rename_i fs sz by' z0 cs hti
  rw [hti]
  simp only [AY]
  split at h
  ·rename_i o t ho
   rw [ho]
   simp only
   split at h
   ·rename_i i hi
    simp only [hi,SH,h,Option.map_some]
   ·cases h
  ·cases h
 ·cases h
theorem U7 {L:Type} {n:Int} {lit:Bool} {len:Nat} {k:Nat->Tr U L} {y:L} (h:(QT n lit len k).AZ y):(0<=n/\n<len)/\(k n.toNat).AZ y:=by
 unfold QT at h
 split at h
 ·split at h
  ·simp_all
  ·simp [Tr.AZ] at h
 ·revert h
  suffices hh:∀l:List Nat,(∀i∈l,i<len)->(l.foldr (fun(i:Nat) rest=>Tr.br (n==(i:Int)) (k i) rest) .fail).AZ y->(0<=n/\n<len)/\(k n.toNat).AZ y from
   fun h=>hh _ (fun i hi=>by simpa using hi) h
  intro l
  induction l with
  | nil=>intro _ h;simp [Tr.AZ] at h
  | cons i l ih=>
   intro hl h
   simp only [List.foldr_cons,Tr.AZ,beq_iff_eq] at h
   rcases h with ⟨hn,hr⟩|⟨_,hr⟩
   ·simp_all
   simp_all
theorem Zbq {E:Env} {H:BF U} {t:TypeId} {x i y:SV U.Ty} (h:(oU E H t x i).AZ y):Nh E (BI U H) t (AY U x) (AY U i)=some (AY U y):=by
 unfold oU at h
 unfold Nh
 split at h
 ·rename_i kk n ti hn hti
  rw [Ji hn,hti]
  simp only
  split at h
  ·rename_i el hty
   simp only [hty]
   split at h
   ·rename_i et xs
    simp only [EM,Tr.AZ,decide_eq_true_eq] at h
    obtain⟨h1,h2,rfl⟩:=h
    simp only [AY,List.length_map,h2,h1,and_self,if_true]
   ·rename_i et xs
    simp only [EM,Tr.AZ,decide_eq_true_eq] at h
    obtain⟨h1,h2,rfl⟩:=h
    simp only [AY,List.length_map,h2,h1,and_self,if_true]
   ·rename_i id m
    obtain⟨et,xs,fl,r1,r2,r3,r4⟩:=Gj h
    simp only [EM,Tr.AZ,decide_eq_true_eq] at r3
    obtain⟨h1,h2,rfl⟩:=r3
    simp only [AY,r4,Ce,h2,h1,and_self,if_true,Nat.zero_add]
   ·rename_i id off len tot
    obtain⟨et,xs,fl,r1,r2,r3,r4⟩:=Gj h
    simp only [EM,Tr.AZ,decide_eq_true_eq] at r3
    obtain⟨h1,h2,rfl⟩:=r3
    simp only [AY,r4,Ce,h2,h1,and_self,if_true]
   ·simp [Tr.AZ] at h
  ·rename_i len e hty
   simp only [hty]
   split at h
   ·simp [Tr.AZ] at h
   ·rename_i sz hsz
    split at h
    ·obtain⟨hb,h⟩:=U7 h
     simp only [Tr.AZ] at h
     subst h
     simp only [AY,hsz,hb,and_self,if_true]
    ·obtain⟨hb,h⟩:=U7 h
     simp only [Tr.AZ] at h
     subst h
     simp only [AY,hsz,hb,and_self,if_true]
    ·split at h
     ·rename_i hc
      simp only [Bool.and_eq_true,decide_eq_true_eq] at hc
      simp only [Tr.AZ,decide_eq_true_eq] at h
      obtain⟨hb,rfl⟩:=h
      simp only [AY,hsz,hb,and_self,if_true,hc.1,Nat.mul_one,Nat.zero_add]
     ·obtain⟨hb,h⟩:=U7 h
      simp only [Tr.AZ] at h
      subst h
      simp only [AY,hsz,hb,and_self,if_true]
    ·obtain⟨hb,h⟩:=U7 h
     simp only [Tr.AZ] at h
     subst h
     simp only [AY,hsz,hb,and_self,if_true]
    ·simp [Tr.AZ] at h
  ·simp [Tr.AZ] at h
 ·simp [Tr.AZ] at h
theorem ZkV {s:ByteArray} {n:Nat} (h:n<s.size):s[n]? = some (s.get! n):=by
 rw [getElem?_pos s n h]
 cases s with
 | mk d=>
  have hd:n<d.size:=h
  show some d[n]=some d[n]!
  simp_all
theorem Zjd {E:Env} {t:TypeId} {x i y:SV U.Ty} (h:(uT E t x i).AZ y):Sr E t (AY U x) (AY U i)=some (AY U y):=by
 unfold uT at h
 unfold Sr
 split at h
 ·rename_i kk n hn
  rw [Ji hn]
  simp only
  split at h
  ·rename_i len e sz by' z0 cs hti
   rw [hti]
   simp only [AY]
   split at h
   ·rename_i ei hei
    obtain⟨hb,h⟩:=U7 h
    rw [MK] at h
    simp only [hei,hb,and_self,if_true,SH,h,Option.map_some]
   ·simp [Tr.AZ] at h
  ·rename_i sz by' z0 hti
   rw [hti]
   split at h
   ·rename_i s hs
    rw [Nj hs]
    split at h
    ·rename_i hE
     simp only [Tr.AZ,decide_eq_true_eq] at h
     obtain⟨⟨h1,h2⟩,rfl⟩:=h
     have hlt:n.toNat<s.size:=by omega
     simp only [hE,h1,if_true,ZkV hlt,Option.map_some,AY]
    ·simp [Tr.AZ] at h
   ·simp [Tr.AZ] at h
  ·simp [Tr.AZ] at h
 ·simp [Tr.AZ] at h
theorem Yn {t:Nat} {xs:List (U.Ty t)} {y:SV U.Ty} (h:(TM t xs).AZ y) :
  U.Au t=1/\∃bs,bytesOf (xs.map (U.enc t))=some bs/\bs.length<=maxLen/\y = .ss ⟨bs.toArray⟩:=by
 unfold TM at h
 simp only [EM,Tr.AZ] at h
 obtain⟨h1,h2,h3⟩:=h
 refine⟨h1,?_⟩
 unfold MP at h2
 unfold strOf at h3
 grind
theorem Zk7 {E:Env} {H:BF U} {src dst:TypeId} {x y:SV U.Ty} (h:(tX E H src dst x).AZ y):IX E (BI U H) src dst (AY U x)=some (AY U y,BI U H):=by
 unfold tX at h
 simp only [EM] at h
 obtain⟨hb,h⟩:=h
 simp only [Bool.and_eq_true] at hb
 split at h
 ·simp only [Tr.AZ] at h
  subst h
  simp [IX,AY,hb,EZ,elemsOf,bytesOf]
 ·obtain⟨h1,bs,h2,h3,rfl⟩:=Yn h
  simp [IX,AY,hb,EZ,elemsOf,h1,h2,h3]
 ·obtain⟨h1,bs,h2,h3,rfl⟩:=Yn h
  simp [IX,AY,hb,EZ,elemsOf,h1,h2,h3]
 ·obtain⟨t,xs,fl,h1,h2,h3,h4⟩:=Gj h
  obtain⟨h5,bs,h6,h7,rfl⟩:=Yn h3
  subst h2
  rename_i id
  have he:elemsOf (BI U H) (AY U (.all id xs.length))=some (xs.map (U.enc t)):=by
   simp only [AY,elemsOf,h4]
   simp only [Ce,Nat.zero_add,Nat.le_refl,decide_true,Bool.and_self,if_true,List.drop_zero,Option.some.injEq]
   exact List.take_of_length_le (by simp)
  simp only [AY] at he
  simp only [IX,AY,hb,he,EZ,h4,Ce,h5,Bool.and_self,beq_self_eq_true,if_true,h6,if_pos h7]
 ·obtain⟨t,xs,fl,h1,h2,h3,h4⟩:=Gj h
  simp only [Tr.AZ,decide_eq_true_eq] at h3
  obtain⟨hle,h3⟩:=h3
  obtain⟨h5,bs,h6,h7,rfl⟩:=Yn h3
  rename_i id off len tot
  have he:elemsOf (BI U H) (AY U (.Be id off len tot))=some ((((xs.drop off).take len)).map (U.enc t)):=by
   simp only [AY,elemsOf,h4]
   simp [Ce,hle,List.map_take,List.map_drop]
  simp only [AY] at he
  simp only [IX,AY,hb,he,EZ,h4,Ce,h5,Bool.and_self,beq_self_eq_true,if_true,h6,if_pos h7]
 ·simp [Tr.AZ] at h
theorem Zlz {E:Env} {H:BF U} {src dst:TypeId} {x y:SV U.Ty} (h:(wB E H src dst x).AZ y):IX E (BI U H) src dst (AY U x)=some (AY U y,BI U H):=by
 unfold wB at h
 split at h
 ·rename_i k n hn
  rw [Ji hn]
  unfold IX
  split at h
  ·rename_i j hj
   simp only [hj]
   split at h
   ·rename_i hs
    simp only [Tr.AZ] at h
    subst h
    simp [hs,AY]
   ·simp [Tr.AZ] at h
  ·simp [Tr.AZ] at h
 ·split at h
  ·rename_i s hs
   rw [Nj hs]
   unfold IX
   split at h
   ·rename_i hb
    simp only [Tr.AZ] at h
    subst h
    simp only [Bool.and_eq_true] at hb
    simp [hb,AY]
   ·simp [Tr.AZ] at h
  ·exact Zk7 h
end
section
variable {U:Cm}
theorem Z4H {H:BF U} {x:SV U.Ty} {e:Nat} {ys:List (U.Ty e)} (h:(dE H x e).AZ ys) :
  elemsOf (BI U H) (AY U x)=some (ys.map (U.enc e))/\(EZ (BI U H) (AY U x) (U.Au e)=true):=by
 have go:∀(t:Nat) (xs:List (U.Ty t)),(if h:t=e then Tr.leaf (h▸xs) else Tr.fail:Tr U (List (U.Ty e))).AZ ys->∃he:t=e,(he▸xs:List (U.Ty e))=ys:=by
  intro t xs h
  split at h
  ·rename_i he;exact⟨he,h⟩
  ·simp [Tr.AZ] at h
 unfold dE at h
 simp only at h
 split at h
 ·simp only [Tr.AZ] at h;subst h;exact⟨rfl,rfl⟩
 ·obtain⟨rfl,rfl⟩:=go _ _ h
  exact⟨rfl,by simp [AY,EZ]⟩
 ·obtain⟨rfl,rfl⟩:=go _ _ h
  exact⟨rfl,by simp [AY,EZ]⟩
 ·obtain⟨t,xs,fl,h1,h2,h3,h4⟩:=Gj h
  obtain⟨rfl,rfl⟩:=go _ _ h3
  subst h2
  refine⟨?_,by simp [AY,EZ,h4,Ce]⟩
  simp only [AY,elemsOf,h4]
  simp only [Ce,Nat.zero_add,Nat.le_refl,decide_true,Bool.and_self,if_true,List.drop_zero,Option.some.injEq]
  exact List.take_of_length_le (by simp)
 ·obtain⟨t,xs,fl,h1,h2,h3,h4⟩:=Gj h
  simp only [Tr.AZ,decide_eq_true_eq] at h3
  obtain⟨hle,h3⟩:=h3
  obtain⟨rfl,rfl⟩:=go _ _ h3
  refine⟨?_,by simp [AY,EZ,h4,Ce]⟩
  simp only [AY,elemsOf,h4]
  simp [Ce,hle,List.map_take,List.map_drop]
 ·simp [Tr.AZ] at h
theorem Z67 {L:Type} {kd:IntKind} {n:Int} {lit:Bool} {z:Tr U L} {f:SV U.Ty->Tr U L} {y:L}:∀{kvs:List (SV U.Ty)},(OX kd n lit z f kvs).AZ y ->
  (KT kd n (Aw U kvs)=some none/\z.AZ y)\/∃v,KT kd n (Aw U kvs)=some (some (AY U v))/\(f v).AZ y
 | [],h=>.inl ⟨rfl,h⟩
 | [x],h=>by
  cases x with
  | lit v=>cases v<;>simp [OX,Tr.AZ] at h
  | _=>simp [OX,Tr.AZ] at h
 | x::v::r,h=>by
  have key:∀k a,x = .lit (.int k a)->(KT kd n (Aw U (x::v::r))=some none/\z.AZ y)\/∃u,KT kd n (Aw U (x::v::r))=some (some (AY U u))/\(f u).AZ y:=by
   intro k a hx
   subst hx
   simp only [OX,EM] at h
   obtain⟨rfl,h⟩:=h
   simp only [Aw,AY,KT,if_true]
   by_cases ha:n=a
   ·subst ha
    simp only [if_true]
    cases lit with
    | true=>
     grind
    | false=>
     simp only [Bool.false_eq_true,if_false,Tr.AZ,beq_self_eq_true,true_and] at h
     grind
   ·rw [if_neg ha]
    refine Z67 (lit:=lit) (z:=z) (f:=f) (kvs:=r) ?_
    cases lit with
    | true=>
     simp_all
    | false=>
     have hb:(n==a)=false:=by simpa using ha
     simp only [Bool.false_eq_true,if_false,Tr.AZ,hb] at h
     simp_all
  cases x with
  | lit c=>
   cases c with
   | int k a=>exact key k a rfl
   | _=>simp [OX,Tr.AZ] at h
  | _=>simp [OX,Tr.AZ] at h
theorem Zl0 {E:Env} {t:TypeId} {ok:Bool} {m x y:SV U.Ty} (h:(vX E t ok m x).AZ y):TL E t ok (AY U m) (AY U x)=some (AY U y):=by
 unfold vX at h
 split at h
 ·rename_i k e sz by' z0 kvs kd n hti hx
  simp only [EM] at h
  obtain⟨hk,h⟩:=h
  rw [Ji hx]
  simp only [AY,TL,hti,hk,if_true]
  rcases Z67 h with ⟨h1,h2⟩|⟨v,h1,h2⟩
  ·rw [h1]
   simp only
   split at h2
   ·rename_i ei hei
    rw [hei]
    simp only
    split at h2
    ·rename_i z hz
     simp only [Tr.AZ] at h2
     subst h2
     rw [hz]
     cases ok<;>simp [AY,Aw,SS]
    ·simp [Tr.AZ] at h2
   ·simp [Tr.AZ] at h2
  ·rw [h1]
   simp only [Tr.AZ] at h2
   subst h2
   cases ok<;>simp [AY,Aw]
 ·simp [Tr.AZ] at h
theorem Zjz (v:SV U.Ty):AY U (vZ v)=AY U v:=by cases v<;>rfl
theorem Zgz {E:Env} {k:Nat} {H H' : BF U} {t u:TypeId} {s x y:SV U.Ty} (h:(sV E k H t u s x).AZ (y,H')) :
  Jl E k (BI U H) t u (AY U s) (AY U x)=some (AY U y,BI U H'):=by
 unfold sV at h
 unfold Jl
 split at h
 ·rename_i e sz by' z0 hti
  rw [hti]
  simp only
  split at h
  ·rename_i ei hei
   simp only [EM,Dy] at h
   obtain⟨⟨rfl,hpos,hz,hes⟩,ys,hys,h⟩:=h
   obtain⟨e1,e2⟩:=Z4H hys
   rw [hes] at e2
   simp only [hei,beq_self_eq_true,e1]
   rw [if_pos (by simp [hpos,e2,hz])]
   split at h
   ·rename_i id n
    obtain⟨t',xs,fl,h1,h2,h3,h4⟩:=Gj h
    split at h3
    ·rename_i he
     subst he
     simp only [Tr.AZ,Bool.and_eq_true,decide_eq_true_eq,Prod.mk.injEq] at h3
     obtain⟨⟨l1,l2⟩,rfl,rfl⟩:=h3
     subst h2
     simp only [AY,h4,List.length_map]
     simp only [Ce,hes,beq_self_eq_true,decide_true,Bool.and_self,if_true,l1,l2,Option.some.injEq,Prod.mk.injEq]
     refine⟨by simp [AY],?_⟩
     rw [Nu]
     simp [Ce,hes]
    ·simp [Tr.AZ] at h3
   ·rename_i id off len tot
    obtain⟨t',xs,fl,h1,h2,h3,h4⟩:=Gj h
    split at h3
    ·rename_i he
     subst he
     simp only [Tr.AZ,Bool.and_eq_true,decide_eq_true_eq,Prod.mk.injEq] at h3
     obtain⟨⟨l1,l2,l3,l4⟩,rfl,rfl⟩:=h3
     subst h2
     subst l1
     have hne:¬len=xs.length:=by omega
     simp only [AY,h4]
     simp only [Ce,hes,beq_self_eq_true,decide_true,Bool.and_self,Bool.and_true,Bool.true_and,hne,decide_false,Bool.and_false,Bool.false_and,Bool.false_eq_true,if_false,l2,l3,l4,List.length_map,if_true,Option.some.injEq,Prod.mk.injEq,true_and]
     rw [Nu]
     simp [Ce,hes,List.map_take,List.map_drop]
    ·simp [Tr.AZ] at h3
   ·simp only [Tr.AZ,Bool.and_eq_true,decide_eq_true_eq,Prod.mk.injEq] at h
    obtain⟨⟨l1,l2⟩,rfl,rfl⟩:=h
    simp only [AY,List.length_map,l1,l2,decide_true,Bool.and_self,if_true,Option.some.injEq,Prod.mk.injEq,true_and]
    rw [PE]
    simp [Ce,DD,hes]
   ·rename_i t' xs
    split at h
    ·rename_i he
     subst he
     simp only [Tr.AZ,Bool.and_eq_true,decide_eq_true_eq,Prod.mk.injEq] at h
     obtain⟨⟨l1,l2⟩,h⟩:=h
     simp only [AY,List.length_map,hes,beq_self_eq_true,l1,l2,decide_true,Bool.and_self,if_true]
     rcases h with ⟨hem,rfl,rfl⟩|⟨hem,rfl,rfl⟩
     ·simp [hem,AY,hes]
     ·simp only [List.isEmpty_map,hem,Bool.false_eq_true,if_false,Option.some.injEq,Prod.mk.injEq]
      refine⟨by simp [AY],?_⟩
      rw [PE]
      simp [Ce,DD,hes]
    ·simp [Tr.AZ] at h
   ·simp [Tr.AZ] at h
  ·simp [Tr.AZ] at h
 ·simp [Tr.AZ] at h
theorem Zkm {E:Env} (hU:D5 U E) {k:Nat} {H H' : BF U} {dst:TypeId} {x y:SV U.Ty} (h:(uU E k H dst x).AZ (y,H')):KZ E k (BI U H) dst (AY U x)=some (AY U y,BI U H'):=by
 unfold uU at h
 split at h
 ·rename_i st e sz by' z0 hs hti
  simp only [EM,Tr.AZ,Prod.mk.injEq] at h
  obtain⟨⟨h1,h2⟩,hok,rfl,rfl⟩:=h
  have key:∀l:List UInt8,(l.all fun b=>(U.Gf e (.si .u8 b.toNat)).isSome)=true->(l.filterMap fun b=>U.Gf e (.si .u8 b.toNat)).map (U.enc e)=l.map fun c=>V.lit (.int .u8 c.toNat):=by
   intro l
   induction l with
   | nil=>intro _;rfl
   | cons b l ih=>
    intro hl
    simp only [List.all_cons,Bool.and_eq_true] at hl
    cases hd:U.Gf e (.si .u8 b.toNat) with
    | none=>simp_all
    | some a=>
     have:=hU.dec _ _ _ hd
     simp only [AY,EC,Gx] at this
     simp_all
  have hmap:(MI U e st).map (U.enc e)=bytesV st:=key _ hok
  have hlen:(MI U e st).length=st.size:=by
   have:=congrArg List.length hmap
   rw [List.length_map] at this
   rw [this]
   simp only [bytesV,List.length_map]
   exact Array.length_toList
  rw [Nj hs]
  simp only [KZ,hti,h1,if_true,AY,hlen,Option.some.injEq,Prod.mk.injEq,true_and]
  rw [PE]
  simp [Ce,DD,h2,hmap]
 ·simp [Tr.AZ] at h
theorem Z63 {x:SV U.Ty} {v:Value} (h:TY x=some v):AY U x = .lit v:=by
 unfold TY at h
 split at h<;>simp_all [AY]
theorem Zlo {E:Env} {L:Type} (hU:D5 U E) {t:Nat} {xs:List (U.Ty t)} {r:L}:∀{n i:Nat} {k:List Value->Tr U L},(eF xs i n k).AZ r->∃vs,((xs.drop i).take n).map (U.enc t)=vs.map V.lit/\vs.length=n/\(k vs).AZ r:=by
 intro n
 induction n with
 | zero=>intro i k h;exact⟨[],by simp,rfl,h⟩
 | succ n ih=>
  intro i k h
  simp only [eF,Tr.AZ] at h
  obtain⟨x,hx,h⟩:=h
  split at h
  ·rename_i v hv
   obtain⟨vs,h1,h2,h3⟩:=ih h
   obtain⟨hi,hx'⟩:=List.getElem?_eq_some_iff.1 hx
   refine⟨v::vs,?_,by simp [h2],h3⟩
   rw [List.drop_eq_getElem_cons hi,List.take_succ_cons,List.map_cons,List.map_cons,h1,hx',<- hU.encS,Z63 hv]
  ·simp [Tr.AZ] at h
theorem ZmO {E:Env} (hU:D5 U E) {t:TypeId} {x y:SV U.Ty} (h:(wC E t x).AZ y):TP E t (AY U x)=some (AY U y):=by
 unfold wC at h
 split at h
 ·rename_i n e sz by' z0 t' xs hti
  simp only [EM] at h
  obtain⟨⟨c1,c2,c3⟩,h⟩:=h
  obtain⟨vs,h1,h2,h3⟩:=Zlo hU h
  simp only [Tr.AZ] at h3
  subst h3
  rw [List.drop_zero] at h1
  unfold TP
  have hlen:n<=xs.length:=by
   have:=congrArg List.length h1
   simp only [List.length_map,List.length_take] at this
   omega
  have htk:(xs.map (U.enc t')).take n=vs.map V.lit:=by rw [<- List.map_take,h1]
  have hall:(vs.map V.lit).all I9=true:=by simp [List.all_eq_true,I9]
  simp only [hti,AY,c1,c2,c3,htk,List.length_map,hlen,hall,and_self,if_true]
 ·simp [Tr.AZ] at h
theorem ZdE {hi:Option (SV U.Ty)} {n m:Nat} (h:qC hi n=some m):IV (hi.map (AY U)) n n=some m:=by
 unfold qC at h
 split at h
 ·simpa [IV] using h
 ·simpa [IV,I8,AY] using h
 ·cases h
theorem ZgL {E:Env} (hU:D5 U E) {H H' : BF U} {n e:Nat} {x y:SV U.Ty} {lo hi mx:Option (SV U.Ty)} (h:(tJ E H n e x lo hi mx).AZ (y,H')) :
  MW E (BI U H) n e (AY U x) (lo.map (AY U)) (hi.map (AY U)) (mx.map (AY U))=some (AY U y,BI U H'):=by
 unfold tJ at h
 split at h
 ·rename_i id i off tot m hm
  split at h
  ·rename_i e' k cs hb
   split at h
   ·rename_i ys hys
    simp only [EM,Tr.AZ,Prod.mk.injEq] at h
    obtain⟨⟨⟨rfl,rfl,rfl,c4,c5⟩,c6,c7,c8⟩,rfl,rfl⟩:=h
    obtain⟨d1,d2⟩:=qV hU hys
    have hsc:∀c∈cs,∃v,AY U c = .lit v:=fun c hc=>by
     have:=List.all_eq_true.1 c8 c hc
     obtain⟨v,hv⟩:=Option.isSome_iff_exists.1 this
     exact⟨v,Z63 hv⟩
    have hre:(Aw U cs).map (EC (E.rows e))=Aw U cs:=by
     rw [E5,List.map_map]
     apply List.map_congr_left
     intro c hc
     obtain⟨v,hv⟩:=hsc c hc
     simp only [Function.comp,hv,EC,Gx]
    rw [hre] at d1
    have hall:(Aw U cs).all I9=true:=by
     rw [E5,List.all_eq_true]
     intro y hy
     obtain⟨c,hc,rfl⟩:=List.mem_map.1 hy
     obtain⟨v,hv⟩:=hsc c hc
     rw [hv];rfl
    have hlen:(Aw U cs).length=n:=by rw [E5,List.length_map,c4]
    have hbx:=qU hb
    unfold MW
    simp only [AY,Option.map_none,ZdE hm,hbx,DD]
    rw [if_pos ⟨trivial,trivial,hlen,c5,c6,hall⟩]
    simp only [Option.some.injEq,Prod.mk.injEq,c7,List.map_take,d1,true_and]
    rw [Nu]
    simp only [bump]
    apply List.ext_getElem?
    intro j
    rw [List.getElem?_modify,List.getElem?_set]
    by_cases hj:id=j
    ·subst hj
     have hlt:id<H.length:=(List.getElem?_eq_some_iff.1 hb).1
     rw [Jn,hb]
     simp [Ce,DD,AY,Oy,hlt]
    ·simp [hj]
   ·simp [Tr.AZ] at h
  ·simp [Tr.AZ] at h
 ·simp [Tr.AZ] at h
theorem ZlA {E:Env} {H H' : BF U} {t u:TypeId} {d x y:SV U.Ty} (h:(vJ E H t u d x).AZ (y,H')) :
  Wp E (BI U H) t u (AY U d) (AY U x)=some (AY U y,BI U H'):=by
 unfold vJ at h
 unfold Wp
 split at h
 ·rename_i e sz by' z0 hti
  rw [hti]
  simp only
  split at h
  ·rename_i ei hei
   simp only [EM,Dy] at h
   obtain⟨hes,ys,hys,h⟩:=h
   obtain⟨e1,e2⟩:=Z4H hys
   rw [hes] at e2
   simp only [hei,e1]
   split at h
   ·rename_i id n
    obtain⟨t',xs,fl,h1,h2,h3,h4⟩:=Gj h
    split at h3
    ·rename_i he
     subst he
     simp only [EM,Tr.AZ,Prod.mk.injEq] at h3
     obtain⟨hfl,rfl,rfl⟩:=h3
     subst h2
     simp only [AY,h4]
     simp only [Ce,hes,hfl,beq_self_eq_true,decide_true,Bool.and_self,e2,if_true,Option.some.injEq,Prod.mk.injEq,List.length_map]
     refine⟨by simp [AY],?_⟩
     rw [Nu]
     simp [Ce,hes,hfl,List.map_take,List.map_drop]
    ·simp [Tr.AZ] at h3
   ·simp [Tr.AZ] at h
  ·simp [Tr.AZ] at h
 ·simp [Tr.AZ] at h
theorem Z5W {L:Type} {H:BF U} {x:SV U.Ty} {k:Nat->Tr U L} {y:L} (h:(La H x k).AZ y):∃n,lenOf (BI U H) (AY U x)=some n/\(k n).AZ y:=by
 unfold La at h
 split at h
 ·rename_i id n
  obtain⟨t,xs,fl,h1,h2,h3,h4⟩:=Gj h
  exact⟨n,by simp [AY,lenOf,h4],h3⟩
 ·rename_i id off len tot
  obtain⟨t,xs,fl,h1,h2,h3,h4⟩:=Gj h
  exact⟨len,by simp [AY,lenOf,h4],h3⟩
 ·split at h
  ·rename_i n hn
   refine⟨n,?_,h⟩
   unfold wV at hn
   split at hn<;>simp_all [AY,lenOf]
  ·simp [Tr.AZ] at h
theorem qH {L:Type} {H:BF U} {x:SV U.Ty} {k:Nat->Tr U L} {y:L} (h:(La H x k).AZ y):∀v,x≠.raw v:=by
 rintro v rfl
 simp [La,wV,Tr.AZ] at h
theorem Z6Y {x:SV U.Ty} (hx:∀v,x≠.raw v) (h:Q8 x=false):∀s,AY U x≠.lit (.string s):=by
 intro s hs
 unfold Q8 at h
 cases x with
 | raw v=>exact hx v rfl
 | lit v=>simp only [AY,V.lit.injEq] at hs;subst hs;simp [JF] at h
 | ss b=>simp [JF] at h
 | _=>simp [AY] at hs
theorem Z6J {x:SV U.Ty} (h:Q8 x=true):∃s,JF x=some s/\AY U x = .lit (.string s):=by
 unfold Q8 at h
 cases hs:JF x with
 | none=>simp [hs] at h
 | some s=>exact⟨s,rfl,Nj hs⟩
theorem Zhj {E:Env} {t:TypeId} {x:SV U.Ty} (hx:∀v,x≠.raw v):bF E t (AY U x)=rF E t x:=by
 unfold bF rF
 by_cases hs:Q8 x=true
 ·obtain⟨s,_,h⟩:=Z6J hs
  rw [h,if_pos hs]
 ·rw [if_neg hs]
  have:=Z6Y hx (by simpa using hs)
  grind
theorem Zkc {E:Env} {H:BF U} {x:SV U.Ty} {n:Nat} {L:Type} {k:Nat->Tr U L} {y:L} (hl:(La H x k).AZ y) (h:uQ E H x n=true):EZ (BI U H) (AY U x) n=true:=by
 unfold uQ at h
 split at h
 ·simp [AY,EZ]
 ·simpa [AY,EZ] using h
 ·simpa [AY,EZ] using h
 ·rename_i id m
  unfold La at hl
  obtain⟨t,xs,fl,h1,h2,h3,h4⟩:=Gj hl
  simp only [h1] at h
  simpa [AY,EZ,h4,Ce] using h
 ·rename_i id off len tot
  unfold La at hl
  obtain⟨t,xs,fl,h1,h2,h3,h4⟩:=Gj hl
  simp only [h1] at h
  simpa [AY,EZ,h4,Ce] using h
 ·cases h
theorem ZcJ {E:Env} {H:BF U} {t:TypeId} {x:SV U.Ty} {L:Type} {k:Nat->Tr U L} {y:L} (hl:(La H x k).AZ y) (h:oM E H t x=true):Nr E (BI U H) t (AY U x)=true:=by
 have hx:=qH hl
 unfold oM at h
 unfold Nr
 split at h
 ·rename_i hs
  obtain⟨s,_,he⟩:=Z6J hs
  rw [he]
  exact h
 ·rename_i hs
  have hno:=Z6Y hx (by simpa using hs)
  split
  ·simp_all
  ·split at h
   ·rename_i e _ _ _ hti
    split at h
    ·rename_i ei hei
     simp only [hti,hei]
     exact Zkc hl h
    ·cases h
   ·cases h
theorem pV {L:Type} {x:Option (SV U.Ty)} {hi d:Nat} {k:Nat->Tr U L} {y:L} (h:(We x hi d k).AZ y):∃n,IV (x.map (AY U)) hi d=some n/\(k n).AZ y:=by
 unfold We at h
 split at h
 ·exact⟨d,rfl,h⟩
 ·rename_i v
  split at h
  ·rename_i kk n hn
   simp only [Tr.AZ,decide_eq_true_eq] at h
   refine⟨n.toNat,?_,h.2⟩
   simp [IV,Ji hn,I8,h.1]
  ·simp [Tr.AZ] at h
theorem Zjr {E:Env} {H H' : BF U} {t:TypeId} {x y:SV U.Ty} {lo hi mx:Option (SV U.Ty)} (h:(sliceT E H t x lo hi mx).AZ (y,H')) :
  JC E (BI U H) t (AY U x) (lo.map (AY U)) (hi.map (AY U)) (mx.map (AY U))=some (AY U y,BI U H'):=by
 unfold sliceT at h
 unfold JC
 split at h
 ·rename_i hfit
  have hl:=h
  have hraw:=qH hl
  rw [if_pos (ZcJ hl hfit)]
  obtain⟨n,hn,ha⟩:=Z5W hl
  rw [hn]
  obtain⟨hh,eh,hb⟩:=pV ha
  obtain⟨l,el,hc⟩:=pV hb
  simp only [eh,el]
  clear h ha hb
  revert hc
  intro h
  split at h
  ·rename_i m
   split at h
   ·simp [Tr.AZ] at h
   ·rename_i xh
    obtain⟨kk,ek,hd⟩:=pV h
    clear h
    revert hd
    intro h
    simp only [Tr.AZ,beq_iff_eq] at h
    obtain⟨rfl,h⟩:=h
    simp only [Option.map_some,IV] at ek
    simp only [Option.map_some,ek]
    split at h
    ·rename_i e xs
     simp only [Tr.AZ,Prod.mk.injEq] at h
     obtain⟨rfl,rfl⟩:=h
     simp [AY,elemsOf,List.map_take,List.map_drop]
    ·rename_i e xs
     simp only [Tr.AZ,Prod.mk.injEq] at h
     obtain⟨rfl,rfl⟩:=h
     simp [AY,elemsOf,List.map_take,List.map_drop]
    ·rename_i id n'
     obtain⟨e,xs,fl,h1,h2,h3,h4⟩:=Gj h
     simp only [Tr.AZ,Prod.mk.injEq] at h3
     obtain⟨rfl,rfl⟩:=h3
     subst h2
     have hg:(BI U H).getD id default=Ce U (.row e xs fl):=by simp [List.getD,Jn,h1]
     have hel:elemsOf (BI U H) (.Be id 0 xs.length xs.length)=some (xs.map (U.enc e)):=by
      simp only [elemsOf,h4]
      simp only [Ce,Nat.zero_add,Nat.le_refl,decide_true,Bool.and_self,if_true,List.drop_zero]
      rw [List.take_of_length_le (by simp)]
     simp only [AY,hel,if_true,hg]
     simp only [Ce,Option.some.injEq,Prod.mk.injEq]
     refine⟨by simp [List.map_take,List.map_drop],?_⟩
     rw [SG H [id] (by intro i hi;simp at hi;subst hi;exact⟨_,_,_,h1⟩)]
    ·simp [Tr.AZ] at h
  ·simp only [Option.map_none]
   split at h
   ·simp only [Tr.AZ,Prod.mk.injEq] at h
    obtain⟨rfl,rfl⟩:=h
    simp [AY]
   ·simp only [Tr.AZ,Prod.mk.injEq] at h
    obtain⟨rfl,rfl⟩:=h
    simp [AY,List.map_take,List.map_drop]
   ·simp only [Tr.AZ,Prod.mk.injEq] at h
    obtain⟨rfl,rfl⟩:=h
    simp [AY,List.map_take,List.map_drop]
   ·rename_i id n'
    have hnn:n=n' :=by
     unfold La at hl
     obtain⟨e,xs,fl,h1,h2,h3,h4⟩:=Gj hl
     simpa [AY,lenOf,h4] using hn.symm
    subst hnn
    split at h
    ·simp only [Tr.AZ,Prod.mk.injEq] at h
     obtain⟨rfl,rfl⟩:=h
     simp only [Option.map_none,IV,Option.some.injEq] at eh el
     subst eh
     subst el
     simp [AY]
    ·simp only [Tr.AZ,Prod.mk.injEq] at h
     obtain⟨rfl,rfl⟩:=h
     simp [AY]
   ·simp only [Tr.AZ,Prod.mk.injEq] at h
    obtain⟨rfl,rfl⟩:=h
    simp [AY]
   ·split at h
    ·rename_i s hs
     simp only [Tr.AZ,Prod.mk.injEq] at h
     obtain⟨rfl,rfl⟩:=h
     simp [Nj hs,AY]
    ·simp [Tr.AZ] at h
 ·simp [Tr.AZ] at h
def Lc (U:Cm) (M:IA U) (call:Df):Prop:=
 ∀g as H v H',(M g as H).AZ (v,H')->call g (Aw U as) (BI U H)=some (AY U v,BI U H')
theorem JP {H H' : BF U} {T:Tr U (SV U.Ty)} {y:SV U.Ty} (h:(Iu H T).AZ (y,H')):T.AZ y/\H' = H:=by
 simp only [Iu,Dy,Tr.AZ,Prod.mk.injEq] at h
 grind
theorem ZlF {E:Env} {M:IA U} {call:Df} (hU:D5 U E) (hM:Lc U M call) {k:Nat} {H H' : BF U} {s:List (SV U.Ty)} {c:Call} {o:Oper} {y:SV U.Ty} (hop:o.op = .call c) (h:(vN E M k H s c).AZ (y,H')) :
  BH call E k (BI U H) (Aw U s) o=some (AY U y,BI U H'):=by
 unfold BH
 rw [hop]
 simp only
 unfold vN at h
 have hargs:evs E (Aw U s) c.args=Aw U (c.args.toList.map (DK E s)):=Z6z E s c.args.toList
 split at h
 ·rename_i b hb
  rw [hb]
  simp only
  rw [hargs]
  unfold Ns
  split at h
  ·rename_i x t he1 he2
   rw [he1,he2]
   split at h
   ·rename_i hf
    have hraw:=qH h
    obtain⟨n,hn,h⟩:=Z5W h
    simp only [Tr.AZ,Prod.mk.injEq] at h
    obtain⟨rfl,rfl⟩:=h
    simp only [Aw,Zhj hraw,hf,if_true,hn,Option.map_some,AY]
    rfl
   ·simp [Tr.AZ] at h
  ·rename_i a x t u he1 he2
   rw [he1,he2]
   simp only [Aw]
   exact Zgz h
  ·rename_i a x t u he1 he2
   rw [he1,he2]
   simp only [Aw]
   exact ZlA h
  ·obtain⟨h1,rfl⟩:=JP h
   simp only [Z4h h1,Option.map_some]
  ·obtain⟨h1,rfl⟩:=JP h
   simp only [Z4h h1,Option.map_some]
  ·simp [Tr.AZ] at h
 ·rename_i f hf
  rw [hf]
  simp only
  rw [FU]
  split at h
  ·rename_i g first caps hg
   rw [hg]
   simp only [AY]
   have hall:Aw U first++evs E (Aw U s) c.args++Aw U caps=Aw U (first++c.args.toList.map (DK E s)++caps):=by
    rw [hargs];simp only [E5,List.map_append]
   rw [hall]
   exact hM _ _ _ _ _ h
  ·simp [Tr.AZ] at h
 ·simp [Tr.AZ] at h
theorem Z4U {E:Env} {s:List (SV U.Ty)} (ps:List (Nat×Operand)):(ps.map fun(i,x)=>(i,ev E (Aw U s) x))=KQ (ps.map fun(i,x)=>(i,DK E s x)):=by
 simp [KQ,FU]
theorem optEv {E:Env} {s:List (SV U.Ty)} (x:Option Operand):x.map (ev E (Aw U s))=(x.map (DK E s)).map (AY U):=by
 cases x<;>simp [FU]
theorem Zp9 {E:Env} {M:IA U} {call:Df} (hU:D5 U E) (hM:Lc U M call) {k:Nat} {H H' : BF U} {s:List (SV U.Ty)} {o:Oper} {y:SV U.Ty} (h:(XI E M k H s o).AZ (y,H')) :
  BH call E k (BI U H) (Aw U s) o=some (AY U y,BI U H'):=by
 unfold XI at h
 split at h
 ·rename_i x hop
  simp only [Tr.AZ,Prod.mk.injEq] at h
  obtain⟨rfl,rfl⟩:=h
  unfold BH
  rw [hop]
  simp only [FU]
 ·rename_i hop
  unfold BH
  rw [hop]
  simp only
  split at h
  ·rename_i e _ _ _ hti
   simp only [EM,Tr.AZ,Prod.mk.injEq] at h
   obtain⟨hes,rfl,rfl⟩:=h
   simp only [hti,AY,PE,Ce,DD,hes]
   rfl
  ·simp [Tr.AZ] at h
 ·rename_i x hne hop
  simp only [Tr.AZ,Prod.mk.injEq] at h
  obtain⟨rfl,rfl⟩:=h
  unfold BH
  rw [hop]
  split<;>simp_all [FU]
 ·rename_i c a b hop
  unfold BH
  rw [hop]
  simp only [FU]
  split at h
  ·rename_i hc
   simp only [Tr.AZ,Prod.mk.injEq] at h
   obtain⟨rfl,rfl⟩:=h
   rw [hc]
   simp [AY]
  ·rename_i hc
   simp only [Tr.AZ,Prod.mk.injEq] at h
   obtain⟨rfl,rfl⟩:=h
   rw [hc]
   simp [AY]
  ·rename_i t hc
   rw [hc]
   simp only [AY]
   split at h
   ·rename_i x' y' hx hy
    simp only [Tr.AZ,Prod.mk.injEq] at h
    obtain⟨rfl,rfl⟩:=h
    rw [QP hx,QP hy]
    cases t<;>simp [AY]
   ·simp only [Tr.AZ,Prod.mk.injEq] at h
    grind
  ·simp [Tr.AZ] at h
 ·rename_i t hop
  unfold BH
  rw [hop]
  simp only
  split at h
  ·rename_i i hi
   simp only [hi]
   split at h
   ·rename_i z hz
    simp only [EM,Tr.AZ,Prod.mk.injEq] at h
    obtain⟨hc,rfl,rfl⟩:=h
    simp only [hz,hc,and_self,if_true,AY,PE,Ce,SS]
   ·simp [Tr.AZ] at h
  ·simp [Tr.AZ] at h
 ·rename_i t x hop
  unfold BH
  rw [hop]
  simp only [FU]
  split at h
  ·rename_i i hi
   simp only [EM,Tr.AZ,Prod.mk.injEq] at h
   obtain⟨⟨h1,h2⟩,rfl,rfl⟩:=h
   simp only [hi,QQ h2,Ik,h1,OE h2,and_self,if_true,AY,PE,Ce]
  ·simp [Tr.AZ] at h
 ·rename_i t ps hop
  obtain⟨h1,rfl⟩:=JP h
  rw [MK] at h1
  unfold BH
  rw [hop]
  simp only [Z4U,ZiR h1,Option.map_some]
 ·rename_i t n ps hop
  unfold BH
  rw [hop]
  simp only [Z4U]
  exact Zan hU h
 ·rename_i t a hop
  obtain⟨h1,rfl⟩:=JP h
  unfold BH
  rw [hop]
  simp only [FU,Z61 hU h1,Option.map_some]
 ·rename_i t a v hop
  simp only [Dy,Tr.AZ,Prod.mk.injEq] at h
  obtain⟨H1,h1,rfl,rfl⟩:=h
  unfold BH
  rw [hop]
  simp only [FU,Zkk hU h1,Option.map_some]
  rfl
 ·rename_i x hop
  unfold BH
  rw [hop]
  simp only [FU]
  split at h
  ·rename_i hx
   simp only [Tr.AZ,Prod.mk.injEq] at h
   obtain⟨rfl,rfl⟩:=h
   simp [hx,AY,Qa]
  ·rename_i hx
   simp only [Tr.AZ,Prod.mk.injEq] at h
   obtain⟨rfl,rfl⟩:=h
   simp [hx,AY,Qa]
  ·rename_i hx
   simp only [Tr.AZ,Prod.mk.injEq] at h
   obtain⟨rfl,rfl⟩:=h
   simp [hx,AY,Qa]
  ·rename_i hx
   simp only [Tr.AZ,Prod.mk.injEq] at h
   obtain⟨rfl,rfl⟩:=h
   simp [hx,AY,Qa]
  ·simp [Tr.AZ] at h
 ·rename_i op t x z _ hop
  obtain⟨h1,rfl⟩:=JP h
  rw [Dy] at h1
  obtain⟨v,h1,h2⟩:=h1
  have hv:∀(c:Bool) y,(Tr.leaf (if c=true then vZ v else v):Tr U (SV U.Ty)).AZ y->AY U y=AY U v:=fun c y hy=>by
   simp only [Tr.AZ] at hy
   subst hy
   split
   ·exact Zjz v
   ·rfl
  unfold BH
  rw [hop]
  simp only [FU,Zmm h1,Option.map_some,hv _ _ h2]
 ·rename_i op _ x hop
  obtain⟨h1,rfl⟩:=JP h
  unfold BH
  rw [hop]
  simp only [FU,ZnO h1,Option.map_some]
 ·rename_i src dst x hop
  unfold BH
  rw [hop]
  simp only [FU]
  split at h
  ·rename_i hb
   rw [if_pos hb]
   exact Zkm hU h
  ·rename_i hb
   rw [if_neg hb]
   obtain⟨h1,rfl⟩:=JP h
   simp only [Zlz h1]
 ·rename_i t l c hop
  unfold BH
  rw [hop]
  simp only [FU]
  split at h
  ·rename_i e _ _ _ hti
   simp only [hti]
   split at h
   ·rename_i n _ m _ ei hn hm hei
    obtain⟨k1,hn'⟩:=Z4L hn
    obtain⟨k2,hm'⟩:=Z4L hm
    simp only [hn',hm',hei]
    split at h
    ·rename_i z hz
     simp only [hz]
     split at h
     ·rename_i y0 hy0
      simp only [EM,Tr.AZ,decide_eq_true_eq,Prod.mk.injEq] at h
      obtain⟨⟨c1,c2,c3,c4⟩,⟨c5,c6,c7,c8⟩,rfl,rfl⟩:=h
      have hd:=hU.dec _ _ _ hy0
      rw [SS] at hd
      rw [if_pos ⟨c5,c6,c7,c8,c1,c2,c3⟩]
      simp only [AY,PE,Ce,DD,c4,hd,List.map_replicate,List.length_replicate]
      rfl
     ·simp [Tr.AZ] at h
    ·simp [Tr.AZ] at h
   ·simp [Tr.AZ] at h
  ·simp [Tr.AZ] at h
 ·rename_i t x lo hi mx hop
  unfold BH
  rw [hop]
  simp only [FU,optEv]
  split at h
  ·rename_i n e sz by' z0 hti
   rw [hti]
   exact ZgL hU h
  ·rename_i hna
   split
   ·grind
   ·exact Zjr h
 ·rename_i t x hop
  obtain⟨h1,rfl⟩:=JP h
  unfold BH
  rw [hop]
  simp only [FU,ZmO hU h1,Option.map_some]
 ·rename_i t x f hop
  obtain⟨h1,rfl⟩:=JP h
  rw [MK] at h1
  unfold BH
  rw [hop]
  simp only [FU,ZaV h1,Option.map_some]
 ·rename_i t x f hop
  obtain⟨h1,rfl⟩:=JP h
  rw [MK] at h1
  unfold BH
  rw [hop]
  simp only [FU,ZjP h1,Option.map_some]
 ·rename_i t x i hop
  obtain⟨h1,rfl⟩:=JP h
  unfold BH
  rw [hop]
  simp only [FU,Zbq h1,Option.map_some]
 ·rename_i t x i hop
  obtain⟨h1,rfl⟩:=JP h
  unfold BH
  rw [hop]
  simp only [FU,Zjd h1,Option.map_some]
 ·rename_i x i hop
  unfold BH
  rw [hop]
  simp only [FU]
  split at h
  ·rename_i vs hv
   obtain⟨h1,rfl⟩:=JP h
   rw [MK] at h1
   simp [hv,AY,E5,h1]
  ·simp [Tr.AZ] at h
 ·rename_i t m x ok hop
  obtain⟨h1,rfl⟩:=JP h
  unfold BH
  rw [hop]
  simp only [FU,Zl0 h1,Option.map_some]
 ·rename_i f first caps hop
  simp only [Tr.AZ,Prod.mk.injEq] at h
  obtain⟨rfl,rfl⟩:=h
  unfold BH
  rw [hop]
  simp only [AY,evs,Z6z]
 ·rename_i c hop
  exact ZlF hU hM hop h
 ·simp [Tr.AZ] at h
theorem rW {E:Env} {M:IA U} {call:Df} (hU:D5 U E) (hM:Lc U M call) {ops:Array Oper} {k i:Nat} {st st' : D9 U} (h:(stepT E M ops k i st).AZ st') :
  L6 call E ops k i (C9 U st)=some (C9 U st'):=by
 unfold stepT at h
 unfold L6
 split at h
 ·rename_i ho
  simp only [Tr.AZ] at h
  subst h
  rw [ho]
 ·rename_i o ho
  rw [ho]
  simp only at h ⊢
  have run:∀(q:D9 U),((XI E M k q.H q.s o).andThen fun r=>Tr.leaf (⟨Py q.s o.dst r.1,r.2⟩:D9 U)).AZ st' -> ∃v H1,BH call E k (BI U q.H) (Aw U q.s) o=some (v,H1)/\(⟨setSlot (Aw U q.s) o.dst v,H1⟩:St)=C9 U st' :=by
   intro q hq
   simp only [Dy,Tr.AZ] at hq
   obtain⟨⟨v,H1⟩,h1,rfl⟩:=hq
   exact⟨_,_,Zp9 hU hM h1,by simp only [C9,Z6G]⟩
  have skip:∀(q:D9 U),(Tr.leaf (⟨Py q.s o.dst .no,q.H⟩:D9 U):Tr U (D9 U)).AZ st' -> (⟨setSlot (Aw U q.s) o.dst Hf,BI U q.H⟩:St)=C9 U st' :=by
   intro q hq
   simp only [Tr.AZ] at hq
   subst hq
   simp only [C9,Z6G]
   rfl
  unfold ES
  cases hg:o.guard with
  | none=>
   simp only [hg] at h
   obtain⟨v,H1,h1,h2⟩:=run st h
   simp only [C9,h1]
   rw [h2]
   rfl
  | some jw=>
   obtain⟨j,want⟩:=jw
   simp only [hg] at h
   split at h
   ·simp [Tr.AZ] at h
   ·rename_i d hd
    simp only [hd]
    rw [show (C9 U st).s.getD d .und=AY U (st.s.getD d .und) from Rw st.s d]
    have fin:∀(b:Bool) (q:D9 U),C9 U q=C9 U st->AY U (st.s.getD d .und) = .lit (.bool b) ->
      (if b==want then ((XI E M k q.H q.s o).andThen fun r=>Tr.leaf (⟨Py q.s o.dst r.1,r.2⟩:D9 U)) else (Tr.leaf (⟨Py q.s o.dst .no,q.H⟩:D9 U):Tr U (D9 U))).AZ st' ->
      (match (match JS (AY U (st.s.getD d .und)) want with
       | none=>none
       | some false=>some (Hf,(C9 U st).H)
       | some true=>BH call E k (C9 U st).H (C9 U st).s o) with
      | some (v,H)=>some (⟨setSlot (C9 U st).s o.dst v,H⟩:St)
      | none=>none)=some (C9 U st'):=by
     intro b q hq hv hr
     rw [hv,<- hq]
     simp only [JS]
     split at hr
     ·rename_i hb
      obtain⟨v,H1,h1,h2⟩:=run q hr
      rw [hb]
      simp only [C9,h1]
      exact congrArg some h2
     ·rename_i hb
      have:=skip q hr
      rw [show (b==want)=false by simpa using hb]
      simp only [C9]
      exact congrArg some this
    split at h
    ·rename_i hs
     rw [hs]
     have:=skip st h
     simp only [AY,JS,C9]
     exact congrArg some this
    ·rename_i hs
     refine fin true st rfl (by rw [hs];rfl) ?_
     cases want<;>exact h
    ·rename_i hs
     refine fin false st rfl (by rw [hs];rfl) ?_
     cases want<;>exact h
    ·rename_i b hs
     have hsame:∀b',b=b' -> C9 U (⟨st.s.set d (.lit (.bool b')),st.H⟩:D9 U)=C9 U st:=by
      rintro b' rfl
      simp only [C9,St.mk.injEq,and_true]
      rw [E5,E5,List.map_set]
      apply List.ext_getElem?
      intro n
      rw [List.getElem?_set]
      split
      ·rename_i hdn
       subst hdn
       split
       ·rename_i hlt
        simp only [List.length_map] at hlt
        have:st.s.getD d .und=st.s[d]:=by simp [List.getD,hlt]
        rw [this] at hs
        simp [hlt,hs,AY]
       simp_all
      ·rfl
     simp only [Tr.AZ] at h
     rcases h with ⟨rfl,h⟩|⟨rfl,h⟩
     ·refine fin true _ (hsame true rfl) (by rw [hs];rfl) ?_
      cases want<;>exact h
     ·refine fin false _ (hsame false rfl) (by rw [hs];rfl) ?_
      cases want<;>exact h
    ·simp [Tr.AZ] at h
theorem Zm9 {E:Env} {M:IA U} {call:Df} (hU:D5 U E) (hM:Lc U M call) {ops:Array Oper}:∀{is:List Nat} {st st' : D9 U},(opsT E M ops is st).AZ st' -> O4 call E ops is (C9 U st)=some (C9 U st'):=by
 intro is
 induction is with
 | nil=>intro st st' h;simp only [opsT,Tr.AZ] at h;subst h;rfl
 | cons i is ih=>
  intro st st' h
  simp only [opsT,Dy] at h
  obtain⟨st1,h1,h2⟩:=h
  have:=rW hU hM h1
  simp only [O4,stepD]
  rw [show (C9 U st).H.length=st.H.length from Oy st.H,this]
  exact ih h2
theorem qP {E:Env} {s:List (SV U.Ty)} {o:Oper}:Di E (Aw U s) o=Sj E s o:=by
 unfold Di Sj
 congr 1
 funext x
 rw [FU,ZjG]
theorem Zgr {H:BF U} {a:SV U.Ty} {k:Nat} (h:sS H a k=true):MZ (BI U H) (AY U a) k=true:=by
 unfold sS at h
 split at h
 ·rename_i id i off tot
  simp only [Bool.and_eq_true,beq_iff_eq] at h
  obtain⟨h1,h2⟩:=h
  split at h2
  ·rename_i e n x hb
   simp only [beq_iff_eq] at h2
   simp only [AY,MZ,h1,beq_self_eq_true,Bool.true_and,DY,Jn]
   rw [<- h1,hb]
   simp [Ce,DD,h2]
  ·cases h2
 ·rename_i id n
  simp only [Bool.and_eq_true,beq_iff_eq] at h
  obtain⟨h1,h2⟩:=h
  split at h2
  ·rename_i t xs fl hb
   simp only [AY,MZ,h1,beq_self_eq_true,Bool.true_and,Jn]
   rw [<- h1,hb]
   simp [Ce]
  ·cases h2
 ·cases h
theorem Z4T {base k:Nat} {s0:List (SV U.Ty)} {t:Nat⊕Nat} (h:WX base s0 t=some k):OU base (Aw U s0) t=some k:=by
 cases t with
 | inl j=>exact h
 | inr d=>
  unfold WX at h
  unfold OU
  have:(Aw U s0).getD d .und=AY U (s0.getD d .und):=by
   rw [E5]
   simp only [List.getD,List.getElem?_map]
   cases s0[d]?<;>rfl
  simp only at h ⊢
  rw [this]
  split at h
  ·rename_i he
   rw [he]
   exact h
  ·rename_i he
   rw [he]
   exact h
  ·cases h
theorem Zl2 {E:Env} {ms:List Nat} {lt:List (Nat×(Nat⊕Nat))} {s0:List (SV U.Ty)} {base i:Nat} {s:List (SV U.Ty)} {H:BF U} {o:Oper} (h:vW E ms lt s0 base i s H o=true):Fz E ms lt (Aw U s0) base i (Aw U s) (BI U H) o=true:=by
 unfold vW at h
 unfold Fz
 rw [List.all_eq_true] at h ⊢
 intro p hp
 have h:=h p hp
 cases ht:WX base s0 p.2 with
 | none=>rw [ht] at h;cases h
 | some k=>
  rw [ht] at h
  simp only at h
  rw [Z4T ht]
  simp only
  have:addrOf E (Aw U s) o=AY U (SL E s o):=by
   unfold addrOf SL
   cases JK o<;>first|exact FU ..|rfl
  rw [this,qP]
  split
  ·rename_i he
   rw [if_pos he] at h
   exact Zgr h
  simp_all
theorem ZkU (v:SV U.Ty):dZ (AY U v)=Z7q v:=by cases v<;>rfl
theorem Zj6 {E:Env} {s:List (SV U.Ty)} {o:Oper} (h:tV E s o=true):quietAt E (Aw U s) o=true:=by
 unfold tV at h
 unfold quietAt
 cases hop:o.op with
 | call c=>
  simp only [hop] at h
  simp only
  cases hcal:c.callee with
  | value f=>
   cases f with
   | tmp t=>
    simp only [hcal] at h
    simp only
    rw [Rw]
    cases hq:(E.quiet&&o.type != 0) with
    | false=>rfl
    | true=>
     simp only [hq,Bool.not_true,Bool.false_or] at h ⊢
     cases hv:s.getD t .und with
     | fn g a b=>
      rw [hv] at h
      simp only [tZ,Bool.and_eq_true] at h
      simp only [AY,bZ,Bool.and_eq_true]
      refine⟨h.1,?_⟩
      rw [E5,E5,<- List.map_append,List.all_map]
      rw [List.all_eq_true] at h ⊢
      intro x hx
      simp only [Function.comp,ZkU]
      exact h.2 x hx
     | _=>rw [hv] at h;simp [tZ] at h
   | _=>rfl
  | _=>rfl
 | _=>rfl
theorem Z6k {E:Env} {ops:Array Oper} {base n:Nat} {s0:List (SV U.Ty)} {o:Oper} (h:dY E ops base s0 o=some n):TV E ops base (Aw U s0) o=some n:=by
 unfold dY at h
 unfold TV
 split at h
 ·rename_i t d hop
  rw [hop]
  simp only
  cases hr:rootOf E ops 12 d with
  | none=>rw [hr] at h;cases h
  | some r=>rw [hr] at h;exact Z4T h
 ·cases h
theorem Zkh {E:Env} {ops:Array Oper} {ms:List Nat} {lt:List (Nat×(Nat⊕Nat))} {s0:List (SV U.Ty)} {base i:Nat} {s:List (SV U.Ty)} {o:Oper} (h:uX E ops ms lt s0 base i s o=true) :
  Jq E ops ms lt (Aw U s0) base i (Aw U s) o=true:=by
 unfold uX at h
 unfold Jq
 rw [List.all_eq_true] at h ⊢
 intro j hj
 have h:=h j hj
 cases ho:ops[j]? with
 | none=>rfl
 | some oj=>
  rw [ho] at h
  simp only [Bool.or_eq_true,Bool.and_eq_true] at h ⊢
  rcases h with h|⟨h1,h2⟩
  ·exact .inl h
  ·refine .inr ⟨?_,?_⟩
   ·rcases h1 with h1|h1|h1
    ·exact .inl h1
    ·exact .inr (.inl h1)
    ·refine .inr (.inr ?_)
     have ha:addrOf E (Aw U s) o=AY U (SL E s o):=by
      unfold addrOf SL
      cases JK o<;>first|exact FU ..|rfl
     split at h1
     ·rename_i n id q hn hq
      rw [Z6k hn,ha,hq]
      simpa [AY] using h1
     ·cases h1
   ·rcases h2 with h2|h2|h2
    ·exact .inl h2
    ·exact .inr (.inl h2)
    ·refine .inr (.inr ?_)
     split at h2
     ·rename_i n hn
      rw [Z6k hn,qP]
      exact h2
     ·cases h2
theorem ZkK {ops:Array Oper} {base:Nat} {H:BF U} (h:eH ops base H=true):Kw ops base (BI U H)=true:=by
 unfold eH at h
 unfold Kw
 rw [List.all_eq_true] at h ⊢
 intro j hj
 have h:=h j hj
 cases ho:ops[j]? with
 | none=>rfl
 | some o=>
  rw [ho] at h
  simp only [Bool.or_eq_true,Bool.not_eq_true'] at h ⊢
  rcases h with h|h
  ·exact .inl h
  ·refine .inr ?_
   rw [show (BI U H)[base+j]? = (H[base+j]?).map (Ce U) from Jn _ _]
   cases hb:H[base+j]? with
   | none=>rw [hb] at h;cases h
   | some b=>
    rw [hb] at h
    cases b<;>simp_all [Z74,Ce,OC,DD]
theorem ZmZ {E:Env} {ops:Array Oper} {base m:Nat} {H:BF U} {o:Oper} (h:(!Hu E o||(decide (base+m<=H.length)&&(!H5 E o||eH ops base H)))=true) :
  (!Hu E o||(decide (base+m<=H.length)&&(!H5 E o||Kw ops base (BI U H))))=true:=by
 simp only [Bool.or_eq_true,Bool.and_eq_true] at h ⊢
 rcases h with h|⟨h1,h|h⟩
 ·exact .inl h
 ·exact .inr ⟨h1,.inl h⟩
 ·exact .inr ⟨h1,.inr (ZkK h)⟩
theorem ZjM {E:Env} {M:IA U} {call:Df} (hU:D5 U E) (hM:Lc U M call) {ops:Array Oper} {ms:List Nat} {lt:List (Nat×(Nat⊕Nat))} {s0:List (SV U.Ty)} {base m i:Nat} {st st' : D9 U} (h:(uF E M ops ms lt s0 base m i st).AZ st') :
  Ht call E ops ms lt (Aw U s0) base m i (C9 U st)=some (C9 U st'):=by
 unfold uF at h
 unfold Ht
 split at h
 ·rename_i ho
  simp only [Tr.AZ] at h
  subst h
  rw [ho]
 ·rename_i o ho
  rw [ho]
  simp only [EM] at h ⊢
  obtain⟨h1,h1',h⟩:=h
  rw [Bool.and_eq_true,Bool.and_eq_true,Bool.and_eq_true] at h1'
  obtain⟨⟨⟨h0,h0a⟩,h1a⟩,h1b⟩:=h1'
  have h1' :=And.intro h1a h1b
  rw [show quietAt E (C9 U st).s o=true from Zj6 h0,show Jq E ops ms lt (Aw U s0) base i (C9 U st).s o=true from Zkh h0a,Bool.and_true,Bool.and_true]
  rw [show Di E (C9 U st).s o=Sj E st.s o from qP,show (C9 U st).H.length=st.H.length from Oy st.H,if_pos (by rw [h1,Bool.true_and,Bool.and_eq_true];exact⟨Zl2 h1'.1,ZmZ h1'.2⟩)]
  split at h
  ·rename_i hc
   rw [if_pos hc]
   rw [show (C9 U st).H[base+i]? = (st.H[base+i]?).map (Ce U) from Jn _ _]
   split at h
   ·rename_i b hb
    rw [hb]
    split at h
    ·rename_i hd
     have:b = .dead:=by cases b<;>simp_all [Z7n]
     subst this
     simp only [Option.map_some,Ce,OC,Bool.false_eq_true,if_false]
     exact rW hU hM h
    ·simp [Tr.AZ] at h
   ·simp [Tr.AZ] at h
  ·rename_i hc
   rw [if_neg hc]
   exact rW hU hM h
theorem Zh5 {E:Env} {M:IA U} {call:Df} (hU:D5 U E) (hM:Lc U M call) {ops:Array Oper} {ms:List Nat} {lt:List (Nat×(Nat⊕Nat))} {s0:List (SV U.Ty)} {base m:Nat}:∀{is:List Nat} {st st' : D9 U},(WN E M ops ms lt s0 base m is st).AZ st' ->
  KN call E ops ms lt (Aw U s0) base m is (C9 U st)=some (C9 U st'):=by
 intro is
 induction is with
 | nil=>intro st st' h;simp only [WN,Tr.AZ] at h;subst h;rfl
 | cons i is ih=>
  intro st st' h
  simp only [WN,Dy] at h
  obtain⟨st1,h1,h2⟩:=h
  simp only [KN,ZjM hU hM h1]
  exact ih h2
theorem Zl1 {E:Env} {M:IA U} {call:Df} (hU:D5 U E) (hM:Lc U M call) {ops:Array Oper} {st st' : D9 U} (h:(dV E M ops st).AZ st'):Qn call E ops (C9 U st)=some (C9 U st'):=by
 unfold dV at h
 unfold Qn
 have:=Zh5 hU hM h
 rw [show (C9 U st).H.length=st.H.length from Oy st.H]
 rw [<- this]
 congr 1
 simp [C9,BI,Ce]
end
end Go.Proofs.YtddbklgndkpipaaGreatDoor.Le
