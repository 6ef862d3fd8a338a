/- A part of it. -/
import Derived.Test.YtjodhcdmhobmoaaGreatDoorVL3
set_option linter.unusedVariables false
set_option linter.unusedSimpArgs false
namespace Go.Proofs.YtjodhcdmhobmoaaGreatDoor.Le
open Go.RowKit (Below)
def Pe (P:Program) (E:Env) (f:FuncId) (as:List V) (r:V):Prop:=
 ∀(fz:Nat->Nat->Prop) (w:World) (vs:List Value),(∀b c,fz b c->∃u,w.cell? ⟨b,c,none⟩=some u)->EH E (bare fz) w->AV (bare fz) w as vs ->
  Calls P f vs.toArray w fun e w' =>∃u q,e = .returned u/\Below w.heap.size w w' /\ (∀b c,fz b c->q b c)/\(∀b c,q b c->b<w.heap.size->fz b c) /\
   (∀b c,q b c->∃u,w'.cell? ⟨b,c,none⟩=some u)/\AV (bare q) w' [r] [u]/\DC r=true
def xN (P:Program) (E:Env) (f:FuncId) (as:List V) (e sz:Nat) (xs:List V):Prop:=
 ∀(fz:Nat->Nat->Prop) (w:World) (vs:List Value),(∀b c,fz b c->∃u,w.cell? ⟨b,c,none⟩=some u)->EH E (bare fz) w->AV (bare fz) w as vs ->
  Calls P f vs.toArray w fun z w' =>∃u us q,z = .returned u/\Below w.heap.size w w' /\ (∀b c,fz b c->q b c)/\(∀b c,q b c->b<w.heap.size->fz b c) /\
   (∀b c,q b c->∃u,w'.cell? ⟨b,c,none⟩=some u)/\AV (bare q) w' xs us/\(∀x∈xs,FM x=true)/\(∀u∈us,u.cells.size=sz)/\(∀u∈flat us,u.oneCell' = true) /\
   GR w' w.heap.size e sz u xs.length (flat us)/\(∀g c,u.ownBlock=some g->¬q g c)
def Nj (P:Program) (f:FuncId):Prop:=∃fn,P.funcs[f]? = some fn/\fn.body.isNone=false/\(fn.name == "runtime.NumGoroutine")=false
structure TF (P:Program) (E:Env):Prop where
 env:∀f F,E.env f=some F->Nj P f/\∀as r,CS as=true->F as=some r->match E.own f with|none=>Pe P E f as r|some e=>∀sz xs,r = .sl false sz xs->xN P E f as e sz xs
 hm:∀f key hs,E.hm f key=some hs->Nj P f/\∀as H0 r H1,hs.run as H0=some (r,H1)->VP P E f as H0 r H1
 maps:∀f l,E.maps f=some l->Nj P f/\∀x H,VP P E f [x] H (mkV l x) H
structure Qo (P:Program) where
 tab:FuncId->Option (List (Int×FuncId))
 ok:∀f l,tab f=some l->Nj P f/\∀E x H,VP P E f [x] H (mkV l x) H
def Qo.no (P:Program):Qo P:=⟨fun _=>none,fun _ _ h=>by cases h⟩
theorem Below.grownBy {w w' : World} (h:Below w.heap.size w w'):w.grownBy w' none:=⟨h.os,h.tape,h.output,h.size,fun k hk _=>h.block k hk⟩
theorem Z37 {B w0 σ H w} (h:Inv B w0 σ H w) {x q : V} {v:Value} (hr:AV σ w [x] [v]) (hf:KG H x=some q):DC q = true:=by
 unfold KG at hf;split at hf
 ·rename_i vs;cases hr with
  | BH z _=>
   cases hl:Fg H vs with
   | none=>simp[hl]at hf
   | some A =>
    simp only[hl,Option.map_some,Option.some.injEq]at hf;subst hf;exact bY h z hl
 ·exact vS h hr hf
section
variable {P:Program} {E:Env} {B:Nat} {w0:Start} {σ:Sg} {H:Heap} {w:World} {f:FuncId}
theorem Ze2 {args as:List V} {r:V} {vs:List Value} (ts:List TypeId) (hp:Pe P E f (Gs E.rows ts as) r) (hf:Fg H args=some as) (hI:Inv B w0 σ H w) (hg:EH E σ w) (hr:AV σ w args vs) :
  Calls P f vs.toArray w fun e w' =>∃u σ',e = .returned u/\Inv B w0 σ' (bump H (args.flatMap EF)) w' /\ Ext σ w σ' w' /\ AV σ' w' [r] [u]:=by
 obtain⟨z,D⟩:=hI.freeze (args.flatMap EF);have hr1:=Z1q E.rows ts (tN hI hr hf (args.flatMap EF) (fun i hi=>hi));have hn:CS (Gs E.rows ts as)=true:=by rw[qE];exact bY hI hr hf
 generalize hσ1:σ.freeze H (args.flatMap EF)=q at z D hr1;have hbox1:q.box=σ.box:=by rw[<- hσ1];rfl
 have J:∀b c,q.fz b c->(bare q.fz).fz b c/\w.cell? ⟨b,c,none⟩=w.cell? ⟨b,c,none⟩:=fun b c h=>⟨h,rfl⟩;refine(hp q.fz w vs z.cells ((hg.ext D).bare J (Ec.refl _)) (hr1.bare J (Ec.refl _) hn)).mono ?_
 rintro e w' ⟨u,Q,rfl,hb,N,F,G,hru,hnr⟩
 obtain⟨C,I⟩:=z.grown (Below.grownBy hb);have hcell:∀b c,q.fz b c->w'.cell? ⟨b,c,none⟩=w.cell? ⟨b,c,none⟩:=fun b c h=>(I.fz b c h).2;have Y:Ext q w' ⟨q.box,Q⟩ w' :=⟨fun id L O=>⟨L,O,rfl,.inl rfl⟩,fun b c h=>⟨N b c h,rfl⟩,Ec.refl _⟩;refine⟨u,⟨q.box,Q⟩,rfl,⟨C.below,C.size,C.dom,fun id bx hb hl=>?_,C.apart,G,fun b c hc id bx L hb hl O M=>?_,C.low,fun b c hc hlt=>?_,fun b hb=>?_⟩,D.trans (I.trans Y),?_⟩
 ·obtain⟨L,O,A⟩:=C.boxes id bx hb hl;obtain⟨us,h1,h2,h3,h4⟩:=A.ED;exact⟨L,O,⟨A.tot,⟨us,h1.ext Y,h2,h3,h4⟩,A.Ep,A.Au,A.oks,A.IZ⟩⟩
 ·obtain⟨L',S,A⟩:=z.boxes id bx hb hl;rw[show q.box id=some L from O]at S;cases S;exact z.floor b c (F b c hc (A.block_lt M).2) id bx L hb hl O M
 ·exact z.old b c (F b c hc (Nat.lt_of_lt_of_le hlt z.size)) hlt
 ·obtain⟨k1,k2,k3,k4⟩:=C.kept b hb;exact⟨k1,k2,k3,fun c hc=>k4 c (F b c hc (z.kept b hb).1)⟩
 ·exact hru.bare (fun b c h=>⟨h,rfl⟩) (Ec.refl _) (by simp[CS,hnr])
theorem ownsRow_base {w:World} {b z e sz n:Nat} {v:Value} {us:List Value} (h:GR w b e sz v n us) (hb:z <= b):GR w z e sz v n us:=by
 refine⟨h.1,?_⟩;rcases h.2 with h|⟨g,cap,q,D,A,F,C⟩
 ·exact .inl h
 ·exact .inr ⟨g,cap,q,D,A,by omega,C⟩
theorem Zf2 {args as:List V} {e sz:Nat} {xs:List V} {vs:List Value} (ts:List TypeId) (hp:xN P E f (Gs E.rows ts as) e sz xs) (hf:Fg H args=some as) (hI:Inv B w0 σ H w) (hg:EH E σ w) (hr:AV σ w args vs) :
  Calls P f vs.toArray w fun en w' =>∃u σ',en = .returned u/\Inv B w0 σ' (place (bump H (args.flatMap EF)) H.length (CB true false e sz xs)) w' /\ Ext σ w σ' w' /\ AV σ' w' [.Bi H.length 0 xs.length xs.length] [u]:=by
 obtain⟨q,F⟩:=hI.freeze (args.flatMap EF);have hr1:=Z1q E.rows ts (tN hI hr hf (args.flatMap EF) (fun i hi=>hi));have hn:CS (Gs E.rows ts as)=true:=by rw[qE];exact bY hI hr hf
 generalize hσ1:σ.freeze H (args.flatMap EF)=C at q F hr1;have O:∀b c,C.fz b c->(bare C.fz).fz b c/\w.cell? ⟨b,c,none⟩=w.cell? ⟨b,c,none⟩:=fun b c h=>⟨h,rfl⟩;refine(hp C.fz w vs q.cells ((hg.ext F).bare O (Ec.refl _)) (hr1.bare O (Ec.refl _) hn)).mono ?_
 rintro en w' ⟨u,us,Y,rfl,hb,Q,I,J,hru,G,hsz,hone,A,hnfz⟩
 obtain⟨D,hEx2⟩:=q.grown (Below.grownBy hb);have hex:Ext C w' ⟨C.box,Y⟩ w' :=⟨fun id L S=>⟨L,S,rfl,.inl rfl⟩,fun b c h=>⟨Q b c h,rfl⟩,Ec.refl _⟩;have hI3:Inv B w0 ⟨C.box,Y⟩ (bump H (args.flatMap EF)) w' :=by
  refine⟨D.below,D.size,D.dom,fun id bx hb hl=>?_,D.apart,J,fun b c hc id bx L hb hl S A=>?_,D.low,fun b c hc hlt=>?_,fun b hb=>?_⟩
  ·obtain⟨L,S,z⟩:=D.boxes id bx hb hl;obtain⟨us,h1,h2,h3,h4⟩:=z.ED;exact⟨L,S,⟨z.tot,⟨us,h1.ext hex,h2,h3,h4⟩,z.Ep,z.Au,z.oks,z.IZ⟩⟩
  ·obtain⟨L',hL',z⟩:=q.boxes id bx hb hl;rw[show C.box id=some L from S]at hL';cases hL';exact q.floor b c (I b c hc (z.block_lt A).2) id bx L hb hl S A
  ·exact q.old b c (I b c hc (Nat.lt_of_lt_of_le hlt q.size)) hlt
  ·obtain⟨k1,k2,k3,k4⟩:=D.kept b hb;exact⟨k1,k2,k3,fun c hc=>k4 c (I b c hc (q.kept b hb).1)⟩
 have hblk:∀g,u.ownBlock=some g->w.heap.size<=g:=by
  intro g M;rcases A.2 with ⟨hv,_⟩|⟨g',cap,cur,tg,hv,hle,_⟩
  ·rw[hv]at M;cases M
  ·rw[hv]at M;simp only[Value.ownBlock,Option.some.injEq]at M;omega
 have hnr:CS xs=true:=QZ G;have hk:Fv (bump H (args.flatMap EF)) H.length=true:=by
  have:=jI (bump H (args.flatMap EF));rwa[bump_length]at this
 obtain⟨hI4,hEx4⟩:=hI3.ZCP hk (CB true false e sz xs) rfl ⟨u,xs.length,sz⟩ (by simp[CB])
  (fun id bx' L' g h1 h2 h3 h4 h5=>by
   obtain⟨L'',N,z⟩:=q.boxes id bx' h1 h2;rw[show C.box id=some L' from h3]at N;cases N;have:=(z.block_lt h4).2
   grind)
  (fun g c h=>hnfz g c h) (fun g h hk=>by have:=(q.kept g hk).1;have:=hblk g h;omega)
  ⟨rfl,⟨us,hru.bare (fun b c h=>⟨h,rfl⟩) (Ec.refl _) hnr,hsz,hone,by simpa[CB]using ownsRow_base A q.size⟩,by simp[CB],rfl,Z4S G,fun _ x hx=>SY (G x hx)⟩
 have hval:∃a n c,u = .slice a n c/\n=xs.length/\n<=c:=by
  rcases A.2 with ⟨hv,hn⟩|⟨g,cap,cur,tg,hv,_,_,_,hnc,_⟩
  ·grind
  ·grind
 obtain⟨a,n,c,hv,hn',hnc⟩:=hval;refine⟨u,_,rfl,hI4,F.trans (hEx2.trans (hex.trans hEx4)),.Bi (L:=⟨u,xs.length,sz⟩) (by simp[Sg.put]) (Nat.le_refl _) (fun _=>⟨by omega,a,n,c,0,hv,?_,Nat.zero_le _,Nat.le_refl _,fun _=>rfl⟩) ⟨a,n,c,hv⟩ .nil⟩;subst hn';rw[hv];cases a with
 | none=>simp
 | some a=>simp[Addr.add]
theorem ZgT (J:DV E) (hP:E.P=P) {call:EM} (z:KA P E B w0 call) (A:PV E call) {fn:Func} (O:E.func f=some fn) {n:Nat} {args:List V} {H' : Heap} {r:V} {vs:List Value}
  (hb:Qu call n E f fn args H=some (r,H')) (hI:Inv B w0 σ H w) (hg:EH E σ w) (hr:AV σ w args vs) :
  Nj P f/\Calls P f vs.toArray w fun e w' =>∃u σ',e = .returned u/\Inv B w0 σ' H' w' /\ Ext σ w σ' w' /\ AV σ' w' [r] [u]:=by
 unfold Qu at hb;cases q:fn.body with
 | none=>simp[q]at hb
 | some c=>
  simp only[q]at hb;obtain⟨M,Y⟩:=J.func f fn O;rw[hP]at M;refine⟨⟨fn,M,by simp[q],Y⟩,calls_of_wp M q ?_⟩;have N:=J.calm f fn c O q;have F:AV σ w (args++List.replicate (fn.ntmps - args.length) EZ) (vs.toArray++Array.replicate (fn.ntmps - vs.toArray.size) undef).toList:=by
   simp only[Array.toList_append,Array.toList_replicate,List.size_toArray];rw[<- hr.length];exact hr.append (AV.replicate _ (.no .nil))
  have I:FU E B w0 σ ⟨args++List.replicate (fn.ntmps - args.length) EZ,H⟩ { tmps:=vs.toArray++Array.replicate (fn.ntmps - vs.toArray.size) undef,defers:=[] } w:=⟨hI,hg,F,rfl⟩;have G:∀st,(MK E st.H st.s fn.results.toList).map (·,st.H)=some (r,H')->∀Q w' σ',FU E B w0 σ' st Q w' -> Ext σ w σ' w' ->
    Q.defers=[]/\∃v,(results fn Q.tmps).run P w' = .ok v w' /\ (fun e w' =>∃u σ',e=Ending.returned u/\Inv B w0 σ' H' w' /\ Ext σ w σ' w' /\ AV σ' w' [r] [u]) (.returned v) w' :=by
   intro st C Q w' σ' D S;cases hx:MK E st.H st.s fn.results.toList with
   | none=>simp[hx]at C
   | some x=>
    simp only[hx,Option.map_some,Option.some.injEq,Prod.mk.injEq]at C;obtain⟨rfl,rfl⟩:=C;obtain⟨u,hu,hur⟩:=uO (P:=P) J hP D.inv D.slots hx;exact⟨D.calm,u,hu,u,σ',rfl,D.inv,S,hur⟩
  split at hb
  ·rename_i st hc;exact VF J hP z A (Z4Z J hP z A n) c _ .normal st N hc _ σ _ w I (G st hb)
  ·rename_i st hc;exact VF J hP z A (Z4Z J hP z A n) c _ .ret st N hc _ σ _ w I (G st hb)
  ·cases hb
theorem Zet (hE:DV E) (hP:E.P=P) {call:EM} (C:∀B w0,KA P E B w0 call) (D:PV E call) {fn:Func} (N:E.func f=some fn) {n:Nat} {as:List V} {H' : Heap} {M r:V}
  (hb:Qu call n E f fn as []=some (M,H')) (I:KG H' M=some r):Pe P E f as r:=by
 intro fz w vs q hg hr;have hI:Inv w.heap.size (Start.of w fz) (bare fz) [] w:=⟨Below.refl _ w,Nat.le_refl _,fun id L hL=>(by cases hL),fun id bx hb=>by simp at hb,fun i j b1 b2 L1 L2 g Y=>by simp at Y,q,
  fun b c hc id bx L hb=>by simp at hb,fun id bx hb=>by simp at hb,fun b c hc _=>hc,fun b hb=>hb.elim⟩
 obtain⟨_,hc⟩:=ZgT hE hP (C w.heap.size (Start.of w fz)) D N hb hI hg hr;refine hc.mono ?_
 rintro e w' ⟨u,σ',rfl,z,F,J⟩
 obtain⟨A,G⟩:=z.freeze (QH M);have Q:=Z3U z J I (QH M) (fun i hi=>hi);have S:=Z37 z J I;refine⟨u,(σ'.freeze H' (QH M)).fz,rfl,A.below,fun b c h=>(G.fz b c (F.fz b c h).1).1,fun b c h O=>A.old b c h O,A.cells,?_,S⟩;exact Q.bare (fun b c h=>⟨h,rfl⟩) (Ec.refl _) (by simp[CS,S])
theorem Zqd {H:Heap}:∀{xs ys:List V},Fg H xs=some ys->xs.length=ys.length:=by
 intro xs;induction xs with
 | nil=>intro ys h;simp[Fg]at h;subst h;rfl
 | cons x xs q=>
  intro ys h;simp only[Fg]at h
  grind
theorem Zz8 {H H' : Heap} {x:V} (h:Dk (DW x) H H'):Py H' x=Py H x:=by
 unfold Py;split
 ·rename_i id i off tot;split
  ·cases hb:Dn H id tot with
   | none=>rw[Ur (h id (by simp[DW,EY])) hb]
   | some b=>
    obtain⟨z,I,q⟩:=Qa (h id (by simp[DW,EY])) hb;obtain⟨A,C,D,F,G⟩:=VL q
    simp_all
  ·rfl
 ·exact Zgv h
theorem Zvl {H H' : Heap} {xs:List V} (h:Dk (xs.flatMap DW) H H'):MM H' xs=MM H xs:=by
 induction xs with
 | nil=>rfl
 | cons x xs z=>
  simp only[MM];rw[Zz8 (fun i q=>h i (by simp[q])),z (fun i q=>h i (by rw[List.flatMap_cons];exact List.mem_append_right _ q))]
theorem Zyp (n:Nat):yR E (Eu E n):=by
 intro f hp args H v H1 h;cases n with
 | zero=>cases h
 | succ n=>
  unfold Eu at h;cases z:E.maps f with
  | some l=>
   simp only[z]at h;split at h
   ·rename_i x;split at h
    ·rename_i O;simp only[Option.some.injEq,Prod.mk.injEq]at h;obtain⟨rfl,rfl⟩:=h;have hi' : [x].flatMap EF=[]:=by simpa using O
     refine⟨by rw[hi'];rfl,fun H' _=>?_⟩;unfold Eu;simp only[z];rw[if_pos O,hi'];rfl
    ·cases h
   ·cases h
  | none=>
  simp only[z]at h;have hp:((E.pure f||(E.env f).isSome)&&(E.own f).isNone)=true:=by simpa[Y5,z]using hp
  cases q:E.env f with
  | some F=>
   simp only[q]at h
   by_cases M:args.any VR=true
   ·rw[if_pos M]at h;have D:E.own f=none:=by simpa using (Bool.and_eq_true_iff.1 hp).2
    cases hf:MM H args with
    | none=>simp[hf,D]at h
    | some as=>
     simp only[hf,D]at h;cases A:F (Gs E.rows (E.par f) as) with
     | none=>simp[A]at h
     | some r=>
      simp only[A]at h;split at h
      ·rename_i N;simp only[Option.some.injEq,Prod.mk.injEq]at h;refine⟨h.2.symm,fun H' hs=>?_⟩;unfold Eu;simp only[z,q];rw[if_pos M,Zvl hs,hf];simp only[D,A];rw[if_pos N,h.1]
      ·cases h
   rw[if_neg M]at h;cases hf:Fg H args with
   | none=>simp[hf]at h
   | some as=>
    have D:E.own f=none:=by simpa using (Bool.and_eq_true_iff.1 hp).2
    simp only[hf,D]at h;cases A:F (Gs E.rows (E.par f) as) with
    | none=>simp[A]at h
    | some r=>
     simp only[A,Option.map_some,Option.some.injEq,Prod.mk.injEq]at h;refine⟨h.2.symm,fun H' hs=>?_⟩;unfold Eu;simp only[z,q];rw[if_neg M,Z3u hs,hf];simp only[D,A,Option.map_some,h.1]
  | none=>
   have J:E.pure f=true:=by simpa[q]using (Bool.and_eq_true_iff.1 hp).1
   simp only[q,J,if_true]at h;cases C:E.func f with
   | none=>simp[C]at h
   | some fn=>
    simp only[C]at h;cases hf:Fg H args with
    | none=>simp[hf]at h
    | some as=>
     simp only[hf]at h;cases G:Qu (Eu E n) n E f fn as [] with
     | none=>simp[G]at h
     | some Y=>
      obtain⟨S,Q⟩:=Y;simp only[G]at h;cases I:KG Q S with
      | none=>simp[I]at h
      | some r=>
       simp only[I,Option.map_some,Option.some.injEq,Prod.mk.injEq]at h;refine⟨h.2.symm,fun H' hs=>?_⟩;unfold Eu;simp only[z,q,J,if_true,C];rw[Z3u hs,hf]
       simp_all
theorem wB (H:Heap) (a b:List Nat):bump (bump H a) b=bump H (a++b):=by
 induction a generalizing H with
 | nil=>rfl
 | cons i a q=>simp only[bump,List.cons_append,q]
theorem Zdt {f:Fk} {H H1:Heap} {x y:V} (h:I9 f H x=some (y,H1)) (q:Eb y=[]):∃ids,(∀i∈ids,i∈EY x)/\H1=bump H ids/\∀H',Dk (EY x) H H' -> I9 f H' x=some (y,bump H' ids):=by
 cases f with
 | s e sz=>
  simp only[I9]at h;cases hf:Ia H x with
  | none=>simp[hf]at h
  | some w=>
   simp only[hf,Option.map_some,Option.some.injEq,Prod.mk.injEq]at h;obtain⟨rfl,rfl⟩:=h;exact⟨F7 x,fun i z=>Zfv z,rfl,fun H' hs=>by simp only[I9,Z4p hs,hf,Option.map_some]⟩
 | own e sz=>
  exfalso;simp only[I9,lF]at h;split at h
  ·simp only[Option.some.injEq,Prod.mk.injEq]at h;rw[<- h.1]at q;simp[Eb]at q
  ·simp only[Option.some.injEq,Prod.mk.injEq]at h;rw[<- h.1]at q;simp[Eb]at q
  ·split at h
   ·simp only[Option.some.injEq,Prod.mk.injEq]at h;rw[<- h.1]at q;simp[Eb]at q
   ·cases h
  ·cases h
 | keep=>
  simp only[I9,Option.some.injEq,Prod.mk.injEq]at h;obtain⟨rfl,rfl⟩:=h;exact⟨[],by simp,rfl,fun H' _=>rfl⟩
 | drop=>
  simp only[I9,Option.some.injEq,Prod.mk.injEq]at h;obtain⟨rfl,rfl⟩:=h;exact⟨[],by simp,rfl,fun H' _=>rfl⟩
theorem Zxe:∀{fl:List Fk} {H H1:Heap} {xs ys:List V},I8 fl H xs=some (ys,H1)->Dv ys=[]->∃ids,(∀i∈ids,i∈xs.flatMap EY)/\H1=bump H ids/\∀H',Dk (xs.flatMap EY) H H' -> I8 fl H' xs=some (ys,bump H' ids):=by
 intro fl;induction fl with
 | nil=>
  intro H H1 xs ys h A;cases xs with
  | nil=>
   simp only[I8,Option.some.injEq,Prod.mk.injEq]at h;obtain⟨rfl,rfl⟩:=h;exact⟨[],by simp,rfl,fun H' _=>rfl⟩
  | cons=>simp[I8]at h
 | cons f fl O=>
  intro H H1 xs ys h A;cases xs with
  | nil=>simp[I8]at h
  | cons x xs=>
   simp only[I8]at h;cases C:I9 f H x with
   | none=>simp[C]at h
   | some r=>
    obtain⟨y,M⟩:=r;simp only[C]at h;cases D:I8 fl M xs with
    | none=>simp[D]at h
    | some q=>
     obtain⟨Y,Q⟩:=q;simp only[D,Option.some.injEq,Prod.mk.injEq]at h;obtain⟨rfl,rfl⟩:=h;simp only[Dv,List.append_eq_nil_iff]at A;obtain⟨z,S,rfl,N⟩:=Zdt C A.1;obtain⟨J,b1,rfl,b3⟩:=O D A.2;refine⟨z++J,fun i I=>?_,wB H z J,fun H' hs=>?_⟩
     ·grind
     ·have F:Dk (EY x) H H' :=fun i I=>hs i (by simp_all);have G:Dk (xs.flatMap EY) (bump H z) (bump H' z):=(Sr _ z H).symm.trans (Dk.trans (fun i I=>hs i (by simp_all)) (Sr _ z H'));simp only[I8,N H' F,b3 _ G,wB]
theorem Zws {fl:List Fk} {H H1:Heap} {x y:V} (h:Kw fl H x=some (y,H1)) (F:Eb y=[]):∃ids,(∀i∈ids,i∈DW x)/\H1=bump H ids/\∀H',Dk (DW x) H H' -> Kw fl H' x=some (y,bump H' ids):=by
 unfold Kw at h;split at h
 ·rename_i cs;cases D:I8 fl H cs with
  | none=>simp[D]at h
  | some r=>
   obtain⟨ys,I⟩:=r;simp only[D,Option.map_some,Option.some.injEq,Prod.mk.injEq]at h;obtain⟨rfl,rfl⟩:=h;obtain⟨ids,z,A,C⟩:=Zxe D (by simpa[Eb]using F);exact⟨ids,z,A,fun H' hs=>by simp only[Kw,C H' hs,Option.map_some]⟩
 ·rename_i G;have hr:∀i∈EY x,i∈DW x:=fun i q=>by
   cases x with
   | fn f a b=>simp[EY]at q
   | agg cs=>simp_all
   | _=>exact q
  split at h
  ·rename_i f;obtain⟨ids,z,A,C⟩:=Zdt h F;refine⟨ids,fun i q=>hr i (z i q),A,fun H' hs=>?_⟩;unfold Kw;split
   ·simp_all
   ·exact C H' (fun i q=>hs i (hr i q))
  ·cases h
theorem Zyz:∀{fa:List (List Fk)} {H H1:Heap} {xs ys:List V},Io fa H xs=some (ys,H1)->Dv ys=[]->∃ids,(∀i∈ids,i∈xs.flatMap DW)/\H1=bump H ids/\∀H',Dk (xs.flatMap DW) H H' -> Io fa H' xs=some (ys,bump H' ids):=by
 intro fl;induction fl with
 | nil=>
  intro H H1 xs ys h A;cases xs with
  | nil=>
   simp only[Io,Option.some.injEq,Prod.mk.injEq]at h;obtain⟨rfl,rfl⟩:=h;exact⟨[],by simp,rfl,fun H' _=>rfl⟩
  | cons=>simp[Io]at h
 | cons f fl O=>
  intro H H1 xs ys h A;cases xs with
  | nil=>simp[Io]at h
  | cons x xs=>
   simp only[Io]at h;cases C:Kw f H x with
   | none=>simp[C]at h
   | some r=>
    obtain⟨y,M⟩:=r;simp only[C]at h;cases D:Io fl M xs with
    | none=>simp[D]at h
    | some q=>
     obtain⟨Y,Q⟩:=q;simp only[D,Option.some.injEq,Prod.mk.injEq]at h;obtain⟨rfl,rfl⟩:=h;simp only[Dv,List.append_eq_nil_iff]at A;obtain⟨z,S,rfl,N⟩:=Zws C A.1;obtain⟨J,b1,rfl,b3⟩:=O D A.2;refine⟨z++J,fun i I=>?_,wB H z J,fun H' hs=>?_⟩
     ·grind
     ·have F:Dk (DW x) H H' :=fun i I=>hs i (by simp_all);have G:Dk (xs.flatMap DW) (bump H z) (bump H' z):=(Sr _ z H).symm.trans (Dk.trans (fun i I=>hs i (by simp_all)) (Sr _ z H'));simp only[Io,N H' F,b3 _ G,wB]
theorem ZwT {n:Nat} {H z:Heap} {q ids:List Nat} (h:LC n [] H q []=some (z,ids)):q=[]/\z=H/\ids=[]:=by
 cases n with
 | zero=>cases h
 | succ n=>
  cases q with
  | nil=>
   simp only[LC,Option.some.injEq,Prod.mk.injEq]at h
   simp_all
  | cons i q=>
   exfalso;unfold LC at h
   simp_all
theorem Zyt {hs:YS} (A:hs.fb=[]) {args:List V} {H H1:Heap} {v:V} (h:Pz hs args H=some (v,H1)) :
  ∃ids D,(∀i∈ids,i∈args.flatMap DW)/\H1=bump H ids++D/\∀H',H'.length=H.length->Dk (args.flatMap DW) H H' -> Pz hs args H' = some (v,bump H' ids++D):=by
 unfold Pz at h;unfold pack at h;rw[A]at h;cases hp:Io hs.fa H args with
 | none=>simp[hp]at h
 | some r=>
  obtain⟨as,J⟩:=r;simp only[hp]at h;cases hk:LC 1000 [] J (List.range 0++Dv as) [] with
  | none=>rw[hk]at h;cases h
  | some q=>
   obtain⟨Q,G⟩:=q;obtain⟨hr,rfl,rfl⟩:=ZwT hk;simp only[List.range_zero,List.nil_append]at hr;obtain⟨ids,M,rfl,N⟩:=Zyz hp hr;simp only[hk]at h;cases z:hs.run (Ho (([]:List Nat).idxOf ·) as) (J9 (bump H ids) []) with
   | none=>rw[z]at h;cases h
   | some O=>
    obtain⟨r,I⟩:=O;simp only[z,List.length_nil,Nat.zero_le,if_true,Option.some.injEq,Prod.mk.injEq,bump_length]at h;obtain⟨rfl,rfl⟩:=h;refine⟨ids,I.map (Gi (KC [] H.length)),M,by simp only[PY,Qz,bump_length],fun H' hl F =>?_⟩;unfold Pz pack;rw[A,N H' F];simp only[List.range_zero,List.nil_append,hr,LC];have C:J9 (bump H' ids) []=J9 (bump H ids) []:=rfl;simp only[C,z,List.length_nil,Nat.zero_le,if_true,bump_length,hl,PY,Qz]
theorem Zwi (n:Nat):yX E (Eu E n):=by
 intro f hf args H v H1 h;cases n with
 | zero=>cases h
 | succ n=>
  have D:=hf;unfold Qw at hf;simp only[Bool.and_eq_true,Option.isNone_iff_eq_none,Bool.not_eq_true']at hf;obtain⟨⟨⟨M,N⟩,O⟩,q⟩:=hf;cases A:E.hm f [] with
  | none=>rw[A]at q;cases q
  | some hs=>
   rw[A]at q;have z:hs.fb=[]:=by simpa using q
   have C:∀H,Eu E (n+1) f args H=Pz hs args H:=fun H=>by
    unfold Eu
    simp_all
   rw[C]at h;obtain⟨ids,F,G,I,J⟩:=Zyt z h
   grind
theorem XR (n:Nat):PV E (Eu E n):=⟨Zyp n,Zwi n⟩
def lZ (w:World) (b c:Nat):Prop:=∃u,w.cell? ⟨b,c,none⟩=some u
theorem ZzY {σ σ' : Sg} {w w' : World} {cs:List V} {ws:List Value} (h:AV σ w cs ws):AV σ' w' (cs.map YQ) ws:=by
 induction cs generalizing ws with
 | nil=>cases h.Fa;exact .nil
 | cons c cs A=>
  obtain⟨v,vs,rfl,q,z⟩:=h.EN;simp only[List.map_cons];refine AV.FZ.2 ⟨?_,A z⟩;cases q with
  | lit hl _=>exact .lit hl .nil
  | _=>exact .und _ .nil
theorem Zdf (cs:List V):CS (cs.map YQ)=true:=by
 induction cs with
 | nil=>rfl
 | cons c cs q=>cases c<;>simp[YQ,CS,DC,q]
theorem Zxd {B:Nat} {w0:Start} {σ:Sg} {H:Heap} {w:World} (h:Inv B w0 σ H w) {x y:V} {v:Value} (hr:AV σ w [x] [v]) (hs:Py H x=some y):AV (bare (lZ w)) w [y] [v]/\DC y=true:=by
 unfold Py at hs;split at hs
 ·rename_i id i off tot;split at hs
  ·rename_i hz;obtain⟨rfl,rfl⟩:=hz;split at hs
   ·rename_i b hb;obtain⟨b1,b2,b3⟩:=X4 hb;split at hs
    ·rename_i cs F C;simp only[Option.some.injEq]at hs;subst hs;obtain⟨L,us,m⟩:=h.meet b1 b2;cases hr with
     | ptr g k1 k2 k3 k4 k5=>
      rename_i G;have J:G = L:=by
       have:=m.box;rw[k1]at this;cases this;rfl
      subst J;obtain⟨n,c,hv⟩:=k3 (m.tot.trans b3);have q:=m.ED;rw[C]at q;have A:∃ws:List Value,us=[.agg ws.toArray]/\AV σ w cs ws/\∀u∈ws,u.oneCell' = true:=by
       cases q with
       | agg q1 q2 q3=>cases q3;exact⟨_,rfl,q1,q2⟩
      obtain⟨ws,A,M,D⟩:=A;refine⟨?_,by simp[DC,CS,Zdf]⟩;have key:AV (bare (lZ w)) w [.CQ b.Au [.agg (cs.map YQ)] 0 0] [.pointer (some ⟨g,0+0*b.Au+0,none⟩)]:=by
       refine .CQ (us:=us) g 0 b.Au 0 0 ?_ ?_ (fun u hu=>by rw[m.Au];exact m.sizes u hu) m.ones ?_ .nil
       ·rw[A];exact .agg (ZzY M) D .nil
       ·intro x hx;simp only[List.mem_singleton]at hx;subst hx;simp[FM,okV,DC,Zdf]
       ·intro j u hu;have:=m.cell (g:=g) (by rw[hv];rfl) j u hu;rw[Nat.zero_add];exact⟨⟨u,this⟩,this⟩
      simp_all
    ·rename_i z F C;simp only[Option.some.injEq]at hs;subst hs;obtain⟨L,us,m⟩:=h.meet b1 b2;cases hr with
     | ptr g k1 k2 k3 k4 k5=>
      rename_i G;have J:G = L:=by
       have:=m.box;rw[k1]at this;cases this;rfl
      subst J;obtain⟨n,c,hv⟩:=k3 (m.tot.trans b3);have q:=m.ED;rw[C]at q;have A:us=[z]/\leaf z=true:=by
       cases q with
       | lit q1 q2=>cases q2;exact⟨rfl,q1⟩
      obtain⟨A,hz⟩:=A;refine⟨?_,by simp[DC,CS]⟩;have key:AV (bare (lZ w)) w [.CQ b.Au [.lit z] 0 0] [.pointer (some ⟨g,0+0*b.Au+0,none⟩)]:=by
       refine .CQ (us:=us) g 0 b.Au 0 0 ?_ ?_ (fun u hu=>by rw[m.Au];exact m.sizes u hu) m.ones ?_ .nil
       ·rw[A];exact .lit hz .nil
       ·intro x hx;simp only[List.mem_singleton]at hx;subst hx;simp[FM,okV,DC]
       ·intro j u hu;have:=m.cell (g:=g) (by rw[hv];rfl) j u hu;rw[Nat.zero_add];exact⟨⟨u,this⟩,this⟩
      simp_all
    ·cases hs
   ·cases hs
  ·cases hs
 ·have O:=vS h hr hs;refine⟨?_,O⟩;obtain⟨I,N⟩:=h.freeze (EF x);have:=wY h hr hs (EF x) (fun i S=>S);exact this.bare (fun b c Q=>⟨I.cells b c Q,rfl⟩) (Ec.refl _) (by simp[CS,O])
theorem Zs6 {B:Nat} {w0:Start} {σ:Sg} {H:Heap} {w:World} (h:Inv B w0 σ H w):∀{xs ys:List V} {vs:List Value},AV σ w xs vs->MM H xs=some ys->AV (bare (lZ w)) w ys vs/\CS ys=true:=by
 intro xs;induction xs with
 | nil=>
  intro ys vs hr hs;cases hr.Fa;simp only[MM,Option.some.injEq]at hs;subst hs;exact⟨.nil,rfl⟩
 | cons x xs D=>
  intro ys vs hr hs;obtain⟨v,J,rfl,A,C⟩:=hr.EN;simp only[MM]at hs;split at hs
  ·rename_i y M q z;simp only[Option.some.injEq]at hs;subst hs;obtain⟨G,n1⟩:=Zxd h A q;obtain⟨I,F⟩:=D C z;exact⟨AV.FZ.2 ⟨G,I⟩,by simp[CS,n1,F]⟩
  ·cases hs
theorem Zey {σ σ' : Sg} {w w' : World} {cs:List V} {ws:List Value} (h:AV σ w cs ws) (hl:cs.all JU=true):AV σ' w' cs ws:=by
 induction cs generalizing ws with
 | nil=>cases h.Fa;exact .nil
 | cons c cs C=>
  obtain⟨v,vs,rfl,z,A⟩:=h.EN;simp only[List.all_cons,Bool.and_eq_true]at hl;refine AV.FZ.2 ⟨?_,C A hl.2⟩;cases z with
  | lit q _=>exact .lit q .nil
  | _=>simp[JU]at hl
theorem Zyv {σ σ' : Sg} {w w' : World} {x:V} {u:Value} (h:AV σ w [x] [u]) (hl:Kv x=true):AV σ' w' [x] [u]:=by
 cases h with
 | lit q _=>exact .lit q .nil
 | agg z A _=>exact .agg (Zey z (by simpa[Kv]using hl)) A .nil
 | _=>simp[Kv]at hl
theorem Zy5 {σ σ' : Sg} {w w' : World} {cs:List V} {ws:List Value} (h:AV σ w cs ws) (hl:cs.all Kv=true):AV σ' w' cs ws:=by
 induction cs generalizing ws with
 | nil=>cases h.Fa;exact .nil
 | cons c cs A=>
  obtain⟨v,vs,rfl,q,z⟩:=h.EN;simp only[List.all_cons,Bool.and_eq_true]at hl;exact AV.FZ.2 ⟨Zyv q hl.1,A z hl.2⟩
theorem Zzy {σ σ' : Sg} {w w' : World} {x:V} {u:Value} (h:AV σ w [x] [u]) (hl:Pj x=true):AV σ' w' [x] [u]:=by
 cases h with
 | lit z _=>exact .lit z .nil
 | agg q A _=>exact .agg (Zey q (by simpa[Pj,Kv]using hl)) A .nil
 | BH q _=>exact .BH (Zy5 q (by simpa[Pj]using hl)) .nil
 | _=>simp[Pj,Kv]at hl
theorem ZvE {P:Program} {E:Env} {B:Nat} {w0:Start} {σ:Sg} {H:Heap} {w:World} {f:FuncId} {args as:List V} {r:V} {vs:List Value} (ts:List TypeId) (hp:CS (Gs E.rows ts as)=true->Pe P E f (Gs E.rows ts as) r) (hf:MM H args=some as) (G:Pj r=true) (C:Inv B w0 σ H w) (Q:EH E σ w) (hr:AV σ w args vs) :
  Calls P f vs.toArray w fun e w' =>∃u σ',e = .returned u/\Inv B w0 σ' (bump H (args.flatMap EF)) w' /\ Ext σ w σ' w' /\ AV σ' w' [r] [u]:=by
 obtain⟨D,q⟩:=C.freeze (args.flatMap EF);obtain⟨Y,n1⟩:=Zs6 C hr hf;have J:=Z1q E.rows ts Y;refine(hp (by rw[qE];exact n1) (lZ w) w vs (fun b c h=>h) (Q.bare (fun b c h=>⟨C.cells b c h,rfl⟩) (Ec.refl _)) J).mono ?_
 rintro e w' ⟨u,O,rfl,hb,I,N,A,M,S⟩
 obtain⟨F,z⟩:=D.grown (Below.grownBy hb);exact⟨u,_,rfl,F,q.trans z,Zzy M G⟩
theorem Z4r (hE:DV E) (hP:E.P=P) (hF:TF P E):∀(n:Nat) (B:Nat) (w0:Start),KA P E B w0 (Eu E n):=by
 intro n;induction n with
 | zero=>intro B w0 f args H x H' σ w vs h;cases h
 | succ n ih=>
  intro B w0 f args H x H' σ w vs h G M hr;unfold Eu at h;cases O:E.maps f with
  | some l=>
   simp only[O]at h;split at h
   ·rename_i x;split at h
    ·simp only[Option.some.injEq,Prod.mk.injEq]at h;obtain⟨rfl,rfl⟩:=h;obtain⟨D,Q⟩:=hF.maps f l O;exact⟨D,Q x H B w0 σ w vs G M hr⟩
    ·cases h
   ·cases h
  | none=>
  simp only[O]at h;cases z:E.env f with
  | some F=>
   simp only[z]at h
   by_cases hq:args.any VR=true
   ·rw[if_pos hq]at h;cases I:E.own f with
    | some e=>simp[I]at h
    | none=>
     cases hf:MM H args with
     | none=>simp[I,hf]at h
     | some as=>
      simp only[I,hf]at h;cases A:F (Gs E.rows (E.par f) as) with
      | none=>simp[A]at h
      | some r=>
       simp only[A]at h;split at h
       ·rename_i hfl;simp only[Option.some.injEq,Prod.mk.injEq]at h;obtain⟨rfl,rfl⟩:=h;obtain⟨D,Q⟩:=hF.env f F z;refine⟨D,ZvE (E.par f) (fun hn=>?_) hf hfl G M hr⟩
        simp_all
       ·cases h
   rw[if_neg hq]at h;cases hf:Fg H args with
   | none=>simp[hf]at h
   | some as=>
    simp only[hf]at h;cases A:F (Gs E.rows (E.par f) as) with
    | none=>
     grind
    | some r=>
     obtain⟨D,Q⟩:=hF.env f F z;have h3:=Q _ r (by rw[qE];exact bY G hr hf) A;cases I:E.own f with
     | none=>
      simp only[I,A,Option.map_some,Option.some.injEq,Prod.mk.injEq]at h;obtain⟨rfl,rfl⟩:=h;rw[I]at h3;exact⟨D,Ze2 (E.par f) h3 hf G M hr⟩
     | some e=>
      simp only[I,A]at h;rw[I]at h3;split at h
      ·rename_i sz xs hr0;simp only[Option.some.injEq,Prod.mk.injEq]at h hr0;obtain⟨rfl,rfl⟩:=h;exact⟨D,Zf2 (E.par f) (h3 sz xs hr0) hf G M hr⟩
      ·cases h
  | none=>
   simp only[z]at h;split at h
   ·cases q:E.func f with
    | none=>simp[q]at h
    | some fn=>
     simp only[q]at h;cases hf:Fg H args with
     | none=>simp[hf]at h
     | some as=>
      simp only[hf]at h;cases C:Qu (Eu E n) n E f fn as [] with
      | none=>simp[C]at h
      | some rr=>
       obtain⟨r0,H2⟩:=rr;simp only[C]at h;cases J:KG H2 r0 with
       | none=>simp[J]at h
       | some r=>
        simp only[J,Option.map_some,Option.some.injEq,Prod.mk.injEq]at h;obtain⟨rfl,rfl⟩:=h;have S:Nj P f:=by
         obtain⟨Y,hf2⟩:=hE.func f fn q;rw[hP]at Y;refine⟨fn,Y,?_,hf2⟩;unfold Qu at C;cases hb:fn.body with
         | none=>simp[hb]at C
         | some c=>rfl
        exact⟨S,Ze2 [] (by simpa[Gs]using Zet hE hP ih (XR n) q C J) hf G M hr⟩
   ·cases N:E.hm f (if Qw E f then [] else Nw args) with
    | some hs=>
     simp only[N]at h;obtain⟨D,Q⟩:=hF.hm f _ hs N;exact⟨D,ZBj Q h G M hr⟩
    | none=>
     simp only[N]at h;cases q:E.func f with
     | none=>simp[q]at h
     | some fn=>
      simp only[q]at h;exact ZgT hE hP (ih B w0) (XR n) q h G M hr
theorem Zzn {n:Nat} {as:List V} {r:V} {H' : Heap} (F:DV E) (hP:E.P=P) (I:TF P E) (hp:E.pure f=true) (D:E.env f=none) (C:E.maps f=none) (J:Fg [] as=some as) (h:Eu E (n+1) f as []=some (r,H')):Pe P E f as r:=by
 unfold Eu at h;simp only[C,D,hp,if_true]at h;cases z:E.func f with
 | none=>simp[z]at h
 | some fn=>
  simp only[z,J]at h;cases q:Qu (Eu E n) n E f fn as [] with
  | none=>simp[q]at h
  | some N=>
   obtain⟨M,G⟩:=N;simp only[q]at h;cases A:KG G M with
   | none=>simp[A]at h
   | some O =>
    simp only[A,Option.map_some,Option.some.injEq,Prod.mk.injEq]at h;obtain⟨rfl,_⟩:=h;exact Zet F hP (Z4r F hP I n) (XR n) z q A
end
end Go.Proofs.YtjodhcdmhobmoaaGreatDoor.Le
namespace Go.Proofs.YtjodhcdmhobmoaaGreatDoor.Le
inductive SV (Ty:Nat->Type) where
 | lit (v:Value)
 | si (k:IntKind) (a:Int)
 | sb (b:Bool)
 | ss (s:ByteArray)
 | agg (cs:List (SV Ty))
 | BH (vs:List (SV Ty))
 | nil (e:Nat)
 | sl (t:Nat) (xs:List (Ty t))
 | DU (t:Nat) (xs:List (Ty t))
 | all (id n:Nat)
 | Bi (id off len tot:Nat)
 | ptr (id i off tot:Nat)
 | CQ (t:Nat) (xs:List (Ty t)) (i off:Nat)
 | fn (f:FuncId) (first caps:List (SV Ty))
 | raw (v:V)
 | Om (kvs:List (SV Ty))
 | Vo (d:Nat) (cs:List V) (off:Nat)
 | no
 | und
instance (Ty:Nat->Type):Inhabited (SV Ty):=⟨.und⟩
structure DD where
 Ty:Nat->Type
 Au:Nat->Nat
 enc:(t:Nat)->Ty t->V
 encS:(t:Nat)->Ty t->SV Ty
 IE:(t:Nat)->SV Ty->Option (Ty t)
 keys:List Nat
section
variable (U:DD)
mutual
def AY:SV U.Ty->V
 | .lit v=>.lit v
 | .si k a=>.lit (.int k a)
 | .sb b=>.lit (.bool b)
 | .ss s=>.lit (.string s)
 | .agg cs=>.agg (Aw cs)
 | .BH cs=>.BH (Aw cs)
 | .nil e=>.sl true e []
 | .sl t xs=>.sl false (U.Au t) (xs.map (U.enc t))
 | .DU t xs=>.DU false (U.Au t) (xs.map (U.enc t))
 | .all id n=>.Bi id 0 n n
 | .Bi id off len tot=>.Bi id off len tot
 | .ptr id i off tot=>.ptr id i off tot
 | .CQ t xs i off=>.CQ (U.Au t) (xs.map (U.enc t)) i off
 | .fn f a b=>.fn f (Aw a) (Aw b)
 | .raw v=>v
 | .Om cs=>.GU (Aw cs)
 | .Vo d cs off=>.CQ d [.agg cs] 0 off
 | .no=>.no
 | .und=>.und
def Aw:List (SV U.Ty)->List V
 | []=>[]
 | x::xs=>AY x::Aw xs
end
inductive OH (Ty:Nat->Type) where
 | var (elem:TypeId) (Au:Nat) (x:SV Ty)
 | row (t:Nat) (xs:List (Ty t)) (fl:Option Nat)
 | dead
 | fvar (elem:TypeId) (Au:Nat) (x:SV Ty)
def OH.floor {Ty:Nat->Type} (fl:Option Nat):Nat:=fl.getD 0
def DF:OH U.Ty->Box
 | .var e n x=>CB false false e n [AY U x]
 | .row t xs fl=>{ live:=true,row:=true,Ep:=false,elem:=t,Au:=U.Au t,xs:=xs.map (U.enc t),floor:=fl.getD 0 }
 | .dead=>Sv
 | .fvar e n x=>{ CB false false e n [AY U x] with floor:=1 }
abbrev BF:=List (OH U.Ty)
def BN (H:BF U):Heap:=H.map (DF U)
structure Dw where
 s:List (SV U.Ty)
 H:BF U
def DI (st:Dw U):St:=⟨Aw U st.s,BN U st.H⟩
inductive Tr (L:Type) where
 | leaf (l:L)
 | br (c:Bool) (a b:Tr L)
 | bind (t:Nat) (o:Option (U.Ty t)) (k:U.Ty t->Tr L)
 | chk (c:Bool) (a:Tr L)
 | fail
variable {U}
def Tr.andThen {L M:Type}:Tr U L->(L->Tr U M)->Tr U M
 | .leaf l,f=>f l
 | .br c a b,f=>.br c (a.andThen f) (b.andThen f)
 | .bind t o k,f=>.bind t o fun x=>(k x).andThen f
 | .chk c a,f=>.chk c (a.andThen f)
 | .fail,_=>.fail
def Tr.map {L M:Type} (g:L->M):Tr U L->Tr U M
 | .leaf l=>.leaf (g l)
 | .br c a b=>.br c (a.map g) (b.map g)
 | .bind t o k=>.bind t o fun x=>(k x).map g
 | .chk c a=>.chk c (a.map g)
 | .fail=>.fail
def Tr.den {L R:Type} (J:L->Option R):Tr U L->Option R
 | .leaf l=>J l
 | .br c a b=>cond c (a.den J) (b.den J)
 | .bind t o k=>o.bind fun x=>(k x).den J
 | .chk c a=>cond c (a.den J) none
 | .fail=>none
def Tr.AZ {L:Type}:Tr U L->L->Prop
 | .leaf l,x=>l=x
 | .br c a b,x=>(c=true/\a.AZ x)\/(c=false/\b.AZ x)
 | .bind t o k,x=>∃a,o=some a/\(k a).AZ x
 | .chk c a,x=>c=true/\a.AZ x
 | .fail,_=>False
def Tr.opt {L:Type}:Option L->Tr U L
 | some l=>.leaf l
 | none=>.fail
def Tr.when {L:Type} (p:Prop) [Decidable p] (a:Tr U L):Tr U L:=if p then a else .fail
variable (U)
def Tu:V->SV U.Ty
 | .lit v=>.lit v
 | .sl true e []=>.nil e
 | .no=>.no
 | .und=>.und
 | v=>.raw v
def KQ:V->SV U.Ty
 | .agg cs=>.agg (cs.map (Tu U))
 | v=>Tu U v
variable {U}
def cellsS:SV U.Ty->List (SV U.Ty)
 | .agg cs=>cs
 | v=>[v]
def okS:SV U.Ty->Bool
 | .und | .no | .BH _ | .Om _ | .Vo ..=>false
 | .raw (.agg _)=>false
 | .raw v=>okV v
 | _=>true
def Yb:SV U.Ty->Option Value
 | .lit v=>some v
 | .si k a=>some (.int k a)
 | .sb b=>some (.bool b)
 | .ss s=>some (.string s)
 | _=>none
def asInt:SV U.Ty->Option (IntKind×Int)
 | .lit (.int k a)=>some (k,a)
 | .si k a=>some (k,a)
 | _=>none
def KD:SV U.Ty->Option ByteArray
 | .lit (.string s)=>some s
 | .ss s=>some s
 | _=>none
def asBool:SV U.Ty->Option Bool
 | .lit (.bool b)=>some b
 | .sb b=>some b
 | _=>none
def DY (E:Env) (s:List (SV U.Ty)):Operand->SV U.Ty
 | .tmp t=>s.getD t .und
 | .const v=>KQ U (Qm v)
 | .func f=>.fn f [] []
 | .global g=>match E.Ey g with|some r=>.raw (.CQ r.length [.agg r] 0 0)|none=>.und
def Tq (s:List (SV U.Ty)) (d:Option Tmp) (v:SV U.Ty):List (SV U.Ty):=match d with|some t=>s.set t v|none=>s
def P9 (H:BF U) (k:Nat) (b:OH U.Ty):BF U:=if k<H.length then H.set k b else H++[b]
def rowAt {L:Type} (H:BF U) (id tot:Nat) (k:(t:Nat)->List (U.Ty t)->Option Nat->Tr U L):Tr U L:=
 match H[id]? with
 | some (.row t xs fl)=>.chk (xs.length==tot) (k t xs fl)
 | _=>.fail
def Oh (H:BF U):SV U.Ty->Tr U (SV U.Ty)
 | .lit v=>.leaf (.lit v)
 | .si k a=>.leaf (.si k a)
 | .sb b=>.leaf (.sb b)
 | .ss s=>.leaf (.ss s)
 | .nil e=>.leaf (.nil e)
 | .sl t xs=>.leaf (.sl t xs)
 | .DU t xs=>.leaf (.sl t xs)
 | .all id n=>rowAt H id n fun t xs _=>.leaf (.sl t xs)
 | .Bi id off len tot=>rowAt H id tot fun t xs _=>.chk (decide (off+len<=tot)) (.leaf (.sl t ((xs.drop off).take len)))
 | .fn f [] []=>.leaf (.fn f [] [])
 | _=>.fail
def V4 (H:BF U):List (SV U.Ty)->Tr U (List (SV U.Ty))
 | []=>.leaf []
 | v::vs=>(Oh H v).andThen fun w=>(V4 H vs).andThen fun ws=>.leaf (w::ws)
def Tm (H:BF U):SV U.Ty->Tr U (SV U.Ty)
 | .agg cs=>(V4 H cs).andThen fun ws=>.leaf (.agg ws)
 | v=>Oh H v
def Qi (H:BF U):List (SV U.Ty)->Tr U (List (SV U.Ty))
 | []=>.leaf []
 | v::vs=>(Tm H v).andThen fun w=>(Qi H vs).andThen fun ws=>.leaf (w::ws)
def Pq:SV U.Ty->List Nat
 | .Bi id _ _ _=>[id]
 | .all id _=>[id]
 | .raw v=>F7 v
 | _=>[]
def OE:SV U.Ty->List Nat
 | .agg cs=>cs.flatMap Pq
 | .raw v=>EF v
 | v=>Pq v
def xU:OH U.Ty->OH U.Ty
 | .row t xs _=>.row t xs (some xs.length)
 | b=>b
def Qy (H:BF U):List Nat->BF U
 | []=>H
 | i::q=>Qy (H.modify i xU) q
def TT (cs:List (SV U.Ty)) (off n:Nat) (isAgg:Bool):Option (SV U.Ty):=
 if isAgg then (if off+n<=cs.length then some (.agg ((cs.drop off).take n)) else none) else cs[off]?
def TJ (e:Nat):List (SV U.Ty)->Option (List (U.Ty e))
 | []=>some []
 | v::vs=>match okS v,U.IE e v,TJ e vs with|true,some a,some as=>some (a::as)|_,_,_=>none
def loadT (E:Env) (H:BF U) (t:TypeId) (a:SV U.Ty):Tr U (SV U.Ty):=
 match E.ti t with
 | none=>.fail
 | some i=>
  match a with
  | .CQ q xs j off=>.bind q xs[j]? fun x=>.opt (TT (cellsS (U.encS q x)) off i.size i.isAgg)
  | .ptr id j off tot=>match H[id]? with
   | some (.var _ _ x)=>.when (j=0/\tot=1/\okS x=true) (.opt (TT (cellsS x) off i.size i.isAgg))
   | some (.row q xs _)=>.chk (xs.length==tot) (.bind q xs[j]? fun x=>.opt (TT (cellsS (U.encS q x)) off i.size i.isAgg))
   | _=>.fail
  | .raw (.CQ _ [.lit z] 0 0)=>.opt (TT [.lit z] 0 i.size i.isAgg)
  | .raw (.CQ _ [.agg cs] 0 off)=>.opt ((partOf cs off i.size i.isAgg).map (KQ U))
  | .Vo _ cs off=>match TJ t (cs.map (Tu U)) with
   | some ys=>.when (i.size=1/\i.isAgg=false/\cs.all JU=true) (.bind t ys[off]? fun x=>.leaf (U.encS t x))
   | none=>.fail
  | _=>.fail
def xQ (x:SV U.Ty) (off:Nat) (cs:List (SV U.Ty)):Option (SV U.Ty):=
 match x with
 | .agg q=>if off+cs.length<=q.length then some (.agg (q.take off++cs++q.drop (off+cs.length))) else none
 | .raw _=>none
 | _=>match off,cs with|0,[c]=>some c|_,_=>none
def storeT (E:Env) (H:BF U) (t:TypeId) (a v:SV U.Ty):Tr U (BF U):=
 match E.ti t with
 | none=>.fail
 | some i=>
  match a with
  | .ptr id j off tot=>match H[id]? with
   | some (.var e n x)=>.when ((j=0/\tot=1)/\(cellsS v).length=i.size/\okS v=true/\okS x=true)
     (match xQ x off (cellsS v) with
      | some q =>.when (okS q = true) (.leaf (H.set id (.var e n q)))
      | none=>.fail)
   | some (.row z xs fl)=>.when ((cellsS v).length=i.size/\okS v=true/\(OE v).contains id=false)
     (.chk (xs.length==tot&&decide (fl.getD 0<=j)) (.bind z xs[j]? fun x=>(Tm H v).andThen fun v' =>
      match xQ (U.encS z x) off (cellsS v') with
      | some q =>match U.IE z q with
       | some y=>.when (okS v' = true/\okS q = true) (.leaf ((Qy H (OE v)).set id (.row z (xs.set j y) fl)))
       | none=>.fail
      | none=>.fail))
   | _=>.fail
  | _=>.fail
end
section
variable {U:DD}
def intT (op:BinOp) (k:IntKind) (a b:Int) (lit:Bool):Tr U (SV U.Ty):=
 match op with
 | .add=>.leaf (.si k (k.wrap (a+b)))
 | .sub=>.leaf (.si k (k.wrap (a - b)))
 | .mul=>.leaf (.si k (k.wrap (a*b)))
 | .quo=>if lit then (if b=0 then .fail else .leaf (.si k (k.wrap (a.tdiv b)))) else .chk (b != 0) (.leaf (.si k (k.wrap (a.tdiv b))))
 | .rem=>if lit then (if b=0 then .fail else .leaf (.si k (a.tmod b))) else .chk (b != 0) (.leaf (.si k (a.tmod b)))
 | .and | .or | .xor | .andNot=>.leaf (.si k (bits op k a b))
 | .eql=>.leaf (.sb (a==b))
 | .neq=>.leaf (.sb (a != b))
 | .lss=>.leaf (.sb (decide (a<b)))
 | .leq=>.leaf (.sb (decide (a<=b)))
 | .gtr=>.leaf (.sb (decide (a>b)))
 | .geq=>.leaf (.sb (decide (a>=b)))
 | _=>.fail
def ZhB (op:BinOp) (k:IntKind) (a b:Int):Option Int:=
 match op with
 | .shl=>some (k.wrap (a*2 ^ min b.toNat k.bits))
 | .shr=>some (a.fdiv (2 ^ min b.toNat k.bits))
 | _=>none
def yI (op:BinOp) (k:IntKind) (a b:Int) (lit:Bool):Tr U (SV U.Ty):=
 match ZhB op k a b with
 | none=>.fail
 | some r=>if lit then (if b<0 then .fail else .leaf (.si k r)) else .chk (decide (0<=b)) (.leaf (.si k r))
def strT (op:BinOp) (x y:ByteArray):Tr U (SV U.Ty):=
 match op with
 | .add=>.chk (decide (x.size+y.size<=maxLen)) (.leaf (.ss (x++y)))
 | .eql=>.leaf (.sb (x.toList==y.toList))
 | .neq=>.leaf (.sb !(x.toList==y.toList))
 | .lss=>.leaf (.sb (Op.bytesLess x.toList y.toList))
 | .leq=>.leaf (.sb (Op.bytesLess x.toList y.toList||x.toList==y.toList))
 | .gtr=>.leaf (.sb !(Op.bytesLess x.toList y.toList||x.toList==y.toList))
 | .geq=>.leaf (.sb !(Op.bytesLess x.toList y.toList))
 | _=>.fail
def O6:List FK->List (SV U.Ty)->List (SV U.Ty)->Option Bool
 | [],[],[]=>some true
 | .b::ks,x::xs,y::ys=>match asBool x,asBool y,O6 ks xs ys with|some a,some b,some r=>some (a==b&&r)|_,_,_=>none
 | .i k::ks,x::xs,y::ys=>match asInt x,asInt y,O6 ks xs ys with
  | some (k1,a),some (k2,b),some r=>if k1=k/\k2=k then some (a==b&&r) else none
  | _,_,_=>none
 | .s::ks,x::xs,y::ys=>match KD x,KD y,O6 ks xs ys with|some a,some b,some r=>some (a==b&&r)|_,_,_=>none
 | _,_,_=>none
def isLit:SV U.Ty->Bool | .lit _=>true|_=>false
def Z5F:SV U.Ty->SV U.Ty | .si k a=>.lit (.int k a) | .sb b=>.lit (.bool b)|v=>v
def binT (E:Env) (op:BinOp) (t:TypeId) (x y:SV U.Ty):Tr U (SV U.Ty):=
 match x,y with
 | .agg xs,.agg ys=>match E.flat t with
  | some ks=>match O6 ks xs ys with
   | some b=>(match op with | .eql=>.leaf (.sb b) | .neq=>.leaf (.sb !b)|_=>.fail)
   | none=>.fail
  | none=>.fail
 | x,y=>match asInt x,asInt y with
  | some (k,a),some (j,b)=>(match op with
   | .shl=>yI .shl k a b (isLit y)
   | .shr=>yI .shr k a b (isLit y)
   | op=>if k=j then intT op k a b (isLit y) else .fail)
  | _,_=>match KD x,KD y with
   | some a,some b=>strT op a b
   | _,_=>match asBool x,asBool y with
    | some a,some b=>if E.isBool t then (match op with | .eql=>.leaf (.sb (a==b)) | .neq=>.leaf (.sb (!(a==b)))|_=>.fail) else .fail
    | _,_=>.fail
def unT (op:UnOp) (x:SV U.Ty):Tr U (SV U.Ty):=
 match op,asInt x,asBool x with
 | .neg,some (k,n),_=>.leaf (.si k (k.wrap (0 - n)))
 | .xor,some (k,n),_=>.leaf (.si k (bits .xor k (if k.signed then -1 else k.max) n))
 | .not,_,some b=>.leaf (.sb !b)
 | _,_,_=>.fail
def mX (q:Bool) (k:IntKind):Int->List (SV U.Ty)->Option Int
 | a,[]=>some a
 | a,x::z=>match asInt x with
  | some (j,b)=>if k=j then mX q k (if q then (if b>a then b else a) else (if b<a then b else a)) z else none
  | none=>none
def xR (q:Bool):List (SV U.Ty)->Tr U (SV U.Ty)
 | x::z=>match asInt x with
  | some (k,a)=>(match mX q k a z with|some r=>.leaf (.si k r)|none=>.fail)
  | none=>.fail
 | []=>.fail
def TV (cs:List (SV U.Ty)):List (Nat×SV U.Ty)->(Nat->Option (Nat×Nat))->Option (List (SV U.Ty))
 | [],_=>some cs
 | (i,v)::q,place=>
  match place i with
  | none=>none
  | some (off,size)=>if (cellsS v).length==size&&decide (off+size<=cs.length)&&okS v then TV (cs.take off++cellsS v++cs.drop (off+size)) q place else none
def Z54 (E:Env) (t:TypeId) (q:List (Nat×SV U.Ty)):Option (SV U.Ty):=
 match E.ti t with
 | some i=>match i.zero with
  | some z=>
   if okV z then
    match i.ty with
    | .struct fs=>if fs.all fun x=>(E.ti x.2).isSome then (TV (cellsS (KQ U z)) q (placesOf E fs)).map .agg else none
    | .array _ e=>match E.ti e with
     | some A=>(TV (cellsS (KQ U z)) q (fun i=>some (i*A.size,A.size))).map .agg
     | none=>none
    | _=>none
   else none
  | none=>none
 | none=>none
def Z2M (E:Env) (k:Nat) (H:BF U) (t:TypeId) (n:Nat) (q:List (Nat×SV U.Ty)):Tr U (SV U.Ty×BF U):=
 match E.ti t with
 | some ⟨.slice e,_,_,_⟩=>match E.ti e with
  | some A=>match A.zero with
   | some z=>(Qi H (q.map (·.2))).andThen fun vs=>match TJ e vs with
    | some ys=>.when ((n*A.size<=16777216/\0<A.size/\z.cells.length=A.size/\okV z=true)/\q.map (·.1)=List.range n/\vs.all (fun v=>(cellsS v).length==A.size)=true/\U.Au e=A.size)
      (.leaf (.all k n,P9 (Qy H ((q.map (·.2)).flatMap OE)) k (.row e ys none)))
    | none=>.fail
   | none=>.fail
  | none=>.fail
 | _=>.fail
def Z2Z (E:Env) (s:TypeId) (x:SV U.Ty) (f:Nat):Option (SV U.Ty):=
 match E.ti s with
 | some ⟨.struct fs,_,_,_⟩=>match fs[f]? with
  | some (o,t)=>match E.size t with
   | some sz=>if sz=0 then none else match x with
    | .ptr id j off tot=>some (.ptr id j (off+o) tot)
    | .CQ d xs j off=>some (.CQ d xs j (off+o))
    | .raw (.CQ d xs j off)=>some (.raw (.CQ d xs j (off+o)))
    | _=>none
   | none=>none
  | none=>none
 | _=>none
def Z53 (E:Env) (s:TypeId) (x:SV U.Ty) (f:Nat):Option (SV U.Ty):=
 match E.ti s,x with
 | some ⟨.struct fs,_,_,_⟩,.agg cs=>match fs[f]? with
  | some (o,t)=>match E.ti t with|some i=>TT cs o i.size i.isAgg|none=>none
  | none=>none
 | _,_=>none
def yM (H:BF U) (x:SV U.Ty) (e:Nat):Tr U (List (U.Ty e)):=
 let q (t:Nat) (xs:List (U.Ty t)):Tr U (List (U.Ty e)):=if h:t=e then .leaf (h▸xs) else .fail
 match x with
 | .nil _=>.leaf []
 | .sl t xs=>q t xs
 | .DU t xs=>q t xs
 | .all id n=>rowAt H id n fun t xs _=>q t xs
 | .Bi id off len tot=>rowAt H id tot fun t xs _=>.chk (decide (off+len<=tot)) (q t ((xs.drop off).take len))
 | _=>.fail
def Z4V (E:Env) (k:Nat) (H:BF U) (t u:TypeId) (s x:SV U.Ty):Tr U (SV U.Ty×BF U):=
 match E.ti t with
 | some ⟨.slice e,_,_,_⟩=>match E.ti e with
  | some q=>.when (u=t/\0<q.size/\q.Vu=true/\U.Au e=q.size) ((yM H x e).andThen fun ys=>
    match s with
    | .all id n=>rowAt H id n fun z xs fl=>if h:z = e then
      .chk (decide ((n+ys.length)*q.bytes<=lim)&&decide (n+ys.length<=maxLen))
       (.leaf (.all id ((h▸xs:List (U.Ty e))++ys).length,H.set id (.row e ((h▸xs:List (U.Ty e))++ys) fl)))
     else .fail
    | .Bi id off len tot=>rowAt H id tot fun z xs fl=>if h:z = e then
      .chk (decide (off=0)&&(decide (fl.getD 0<=len)&&(decide (len<tot)&&decide (len+ys.length<=tot))))
       (.leaf (.Bi id 0 (len+ys.length) tot,H.set id (.row e ((h▸xs:List (U.Ty e)).take len++ys++(h▸xs:List (U.Ty e)).drop (len+ys.length)) fl)))
     else .fail
    | .nil _=>.chk (decide (ys.length*q.bytes<=lim)&&decide (ys.length<=maxLen)) (.leaf (.all k ys.length,P9 H k (.row e ys none)))
    | .DU z xs=>if h:z = e then
      .chk (decide ((xs.length+ys.length)*q.bytes<=lim)&&decide (xs.length+ys.length<=maxLen))
       (.br ys.isEmpty (.leaf (.DU z xs,H)) (.leaf (.all k ((h▸xs:List (U.Ty e))++ys).length,P9 H k (.row e ((h▸xs:List (U.Ty e))++ys) none))))
     else .fail
    | _=>.fail)
  | none=>.fail
 | _=>.fail
def Z5G (E:Env) (H:BF U) (t u:TypeId) (d x:SV U.Ty):Tr U (SV U.Ty×BF U):=
 match E.ti t with
 | some ⟨.slice e,_,_,_⟩=>match E.ti e with
  | some q=>.when (U.Au e=q.size) ((yM H x e).andThen fun ys=>
    match d with
    | .all id n=>rowAt H id n fun z xs fl=>if h:z = e then
      .when (fl.getD 0=0) (.leaf (.si .i64 (min ys.length xs.length:Nat),H.set id (.row e (ys.take xs.length++(h▸xs:List (U.Ty e)).drop ys.length) fl)))
     else .fail
    | _=>.fail)
  | none=>.fail
 | _=>.fail
def lenT (x:SV U.Ty):Option Nat:=
 match x with
 | .nil _=>some 0
 | .sl _ xs=>some xs.length
 | .DU _ xs=>some xs.length
 | .lit (.string s)=>some s.size
 | .ss s=>some s.size
 | _=>none
def Ob {L:Type} (H:BF U) (x:SV U.Ty) (k:Nat->Tr U L):Tr U L:=
 match x with
 | .all id n=>rowAt H id n fun _ _ _=>k n
 | .Bi id _ len tot=>rowAt H id tot fun _ _ _=>k len
 | x=>match lenT x with|some n=>k n|none=>.fail
def VX (x:SV U.Ty):Bool:=(KD x).isSome
def Z4d (E:Env) (t:TypeId) (x:SV U.Ty):Bool:=
 if VX x then E.isStr t else match E.ti t with|some ⟨.slice _,_,_,_⟩=>true|_=>false
def kS {L:Type} (x:Option (SV U.Ty)) (z q:Nat) (k:Nat->Tr U L):Tr U L:=
 match x with
 | none=>k q
 | some v=>match asInt v with
  | some (_,n)=>.chk (decide (0<=n/\n<=z)) (k n.toNat)
  | none=>.fail
def Z5d (E:Env) (H:BF U) (x:SV U.Ty) (n:Nat):Bool:=
 match x with
 | .nil _=>true
 | .sl t _=>U.Au t==n
 | .DU t _=>U.Au t==n
 | .all id _ | .Bi id _ _ _=>match H[id]? with|some (.row t _ _)=>U.Au t==n|_=>false
 | _=>false
def Z3s (E:Env) (H:BF U) (t:TypeId) (x:SV U.Ty):Bool:=
 if VX x then E.isStr t else match E.ti t with
  | some ⟨.slice e,_,_,_⟩=>match E.ti e with|some q=>Z5d E H x q.size|none=>false
  | _=>false
def sliceT (E:Env) (H:BF U) (t:TypeId) (x:SV U.Ty) (z q A:Option (SV U.Ty)):Tr U (SV U.Ty×BF U):=
 if Z3s E H t x then
  Ob H x fun n=>kS q n n fun h=>kS z h 0 fun l=>
   match A with
   | some m=>(match q with
    | none=>.fail
    | some _=>kS (some m) n n fun k=>.chk (k==h)
     (match x with
      | .sl e xs=>.leaf (.DU e ((xs.drop l).take (h - l)),H)
      | .DU e xs=>.leaf (.DU e ((xs.drop l).take (h - l)),H)
      | .all id n=>rowAt H id n fun e xs _=>.leaf (.DU e ((xs.drop l).take (h - l)),Qy H [id])
      | _=>.fail))
   | none=>match x with
    | .nil e=>.leaf (.nil e,H)
    | .sl e xs=>.leaf (.sl e ((xs.drop l).take (h - l)),H)
    | .DU e xs=>.leaf (.sl e ((xs.drop l).take (h - l)),H)
    | .all id n=>(match z,q with
     | none,none=>.leaf (.all id n,H)
     | _,_=>.leaf (.Bi id l (h - l) n,H))
    | .Bi id off _ tot=>.leaf (.Bi id (off+l) (h - l) tot,H)
    | x=>match KD x with
     | some s=>.leaf (.ss (s.extract l h),H)
     | none=>.fail
 else .fail
def Z3N (x:Option (SV U.Ty)) (n:Nat):Option Nat:=match x with
 | none=>some n
 | some (.lit (.int _ h))=>if 0<=h/\h<=n then some h.toNat else none
 | _=>none
def Z4O (E:Env) (H:BF U) (n e:Nat) (x:SV U.Ty) (A z C:Option (SV U.Ty)):Tr U (SV U.Ty×BF U):=
 match x,A,Z3N z n,C with
 | .ptr id i off tot,none,some m,none=>match H[id]? with
  | some (.var q k (.agg cs))=>match TJ e cs with
   | some ys=>.when ((i=0/\off=0/\tot=1/\cs.length=n/\n<=maxLen)/\E.size e=some 1/\U.Au e=1/\cs.all (fun c=>(Yb c).isSome)=true) (.leaf (.sl e (ys.take m),H.set id (.fvar q k (.agg cs))))
   | none=>.fail
  | _=>.fail
 | _,_,_,_=>.fail
def zM {L:Type} {t:Nat} (xs:List (U.Ty t)):Nat->Nat->(List Value->Tr U L)->Tr U L
 | _,0,k=>k []
 | i,n+1,k=>.bind t xs[i]? fun x=>match Yb (U.encS t x) with|some v=>zM xs (i+1) n fun vs=>k (v::vs)|none=>.fail
def arrT (E:Env) (t:TypeId) (x:SV U.Ty):Tr U (SV U.Ty):=
 match E.ti t,x with
 | some ⟨.array n e,_,_,_⟩,.sl q xs=>.when (E.size e=some 1/\U.Au q = 1/\0<n) (zM xs 0 n fun vs=>.leaf (.raw (.CQ n [.agg (vs.map .lit)] 0 0)))
 | _,_=>.fail
def VM {L:Type} (n:Int) (lit:Bool) (len:Nat) (k:Nat->Tr U L):Tr U L:=
 if lit then (if 0<=n/\n<len then k n.toNat else .fail)
 else (List.range len).foldr (fun(i:Nat) q=>.br (n==(i:Int)) (k i) q) .fail
def Z38 (E:Env) (H:BF U) (t:TypeId) (x i:SV U.Ty):Tr U (SV U.Ty):=
 match asInt i,E.ti t with
 | some (_,n),some ti=>
  match ti.ty with
  | .slice z=>(match x with
   | .sl q xs=>.when (E.size z=some (U.Au q)) (.chk (decide (0<=n/\n<xs.length)) (.leaf (.CQ q xs n.toNat 0)))
   | .DU q xs=>.when (E.size z=some (U.Au q)) (.chk (decide (0<=n/\n<xs.length)) (.leaf (.CQ q xs n.toNat 0)))
   | .all id m=>rowAt H id m fun q xs _=>.when (E.size z=some (U.Au q)) (.chk (decide (0<=n/\n<m)) (.leaf (.ptr id n.toNat 0 m)))
   | .Bi id off len tot=>rowAt H id tot fun q xs _=>.when (E.size z=some (U.Au q)) (.chk (decide (0<=n/\n<len)) (.leaf (.ptr id (off+n.toNat) 0 tot)))
   | _=>.fail)
  | .array len e=>(match E.size e with
   | none=>.fail
   | some sz=>match x with
    | .ptr id j off tot=>VM n (isLit i) len fun m=>.leaf (.ptr id j (off+m*sz) tot)
    | .CQ d xs j off=>VM n (isLit i) len fun m=>.leaf (.CQ d xs j (off+m*sz))
    | .raw (.CQ d [.agg cs] 0 0)=>if (decide (sz=1)&&(cs.all JU && !isLit i))=true then .chk (decide (0<=n/\n<len)) (.leaf (.Vo d cs n.toNat))
     else VM n (isLit i) len fun m=>.leaf (.raw (.CQ d [.agg cs] 0 (0+m*sz)))
    | .raw (.CQ d xs j off)=>VM n (isLit i) len fun m=>.leaf (.raw (.CQ d xs j (off+m*sz)))
    | _=>.fail)
  | _=>.fail
 | _,_=>.fail
def Z5h (E:Env) (t:TypeId) (x i:SV U.Ty):Tr U (SV U.Ty):=
 match asInt i with
 | some (_,n)=>
  match E.ti t,x with
  | some ⟨.array len e,_,_,_⟩,.agg cs=>match E.ti e with
   | some q=>VM n (isLit i) len fun m=>.opt (TT cs (m*q.size) q.size q.isAgg)
   | none=>.fail
  | some ⟨.scalar,_,_,_⟩,x=>match KD x with
   | some s=>if E.isStr t then .chk (decide (0<=n/\n<s.size)) (.leaf (.si .u8 (s.get! n.toNat).toNat)) else .fail
   | none=>.fail
  | _,_=>.fail
 | none=>.fail
def Jm (U:DD) (t:Nat) (xs:List (U.Ty t)):Bool:=match bytesOf (xs.map (U.enc t)) with|some q=>decide (q.length<=maxLen)|none=>false
def strOf (U:DD) (t:Nat) (xs:List (U.Ty t)):ByteArray:=⟨((bytesOf (xs.map (U.enc t))).getD []).toArray⟩
def YP (t:Nat) (xs:List (U.Ty t)):Tr U (SV U.Ty):=.when (U.Au t=1) (.chk (Jm U t xs) (.leaf (.ss (strOf U t xs))))
def Z5j (E:Env) (H:BF U) (q dst:TypeId) (x:SV U.Ty):Tr U (SV U.Ty):=
 .when ((E.isStr dst&&E.isBytes q)=true) (match x with
  | .nil _=>.leaf (.ss ⟨#[]⟩)
  | .sl t xs=>YP t xs
  | .DU t xs=>YP t xs
  | .all id n=>rowAt H id n fun t xs _=>YP t xs
  | .Bi id off len tot=>rowAt H id tot fun t xs _=>.chk (decide (off+len<=tot)) (YP t ((xs.drop off).take len))
  | _=>.fail)
def Z5D (E:Env) (H:BF U) (q dst:TypeId) (x:SV U.Ty):Tr U (SV U.Ty):=
 match asInt x with
 | some (_,n)=>(match E.kind dst with
  | some k=>if (E.ti q).isSome then .leaf (.si k (k.wrap n)) else .fail
  | none=>.fail)
 | none=>match KD x with
  | some s=>if E.isStr q&&E.isStr dst then .leaf (.ss s) else .fail
  | none=>Z5j E H q dst x
def YZ (U:DD) (e:Nat) (st:ByteArray):Bool:=st.data.toList.all fun b=>(U.IE e (.si .u8 b.toNat)).isSome
def Ko (U:DD) (e:Nat) (st:ByteArray):List (U.Ty e):=st.data.toList.filterMap fun b=>U.IE e (.si .u8 b.toNat)
def Z5n (E:Env) (k:Nat) (H:BF U) (dst:TypeId) (x:SV U.Ty):Tr U (SV U.Ty×BF U):=
 match KD x,E.ti dst with
 | some st,some ⟨.slice e,_,_,_⟩=>.when (E.size e=some 1/\U.Au e=1) (.chk (YZ U e st) (.leaf (.all k (Ko U e st).length,P9 H k (.row e (Ko U e st) none))))
 | _,_=>.fail
abbrev Iy (U:DD):=FuncId->List (SV U.Ty)->BF U->Tr U (SV U.Ty×BF U)
def zF (x:SV U.Ty):Option (Int×Bool):=match x with | .lit (.int _ n)=>some (n,true) | .si _ n=>some (n,false)|_=>none
def Ju (H:BF U) (T:Tr U (SV U.Ty)):Tr U (SV U.Ty×BF U):=T.andThen fun v=>.leaf (v,H)
def Z5x (E:Env) (M:Iy U) (k:Nat) (H:BF U) (s:List (SV U.Ty)) (c:Call):Tr U (SV U.Ty×BF U):=
 match c.callee with
 | .builtin b=>(match b,c.args.toList.map (DY E s),c.argTypes.toList with
  | .len,[x],[t]=>if Z4d E t x then Ob H x fun n=>.leaf (.si .i64 n,H) else .fail
  | .append,[a,x],[t,u]=>Z4V E k H t u a x
  | .copy,[d,x],[t,u]=>Z5G E H t u d x
  | .min,args,_=>Ju H (xR false args)
  | .max,args,_=>Ju H (xR true args)
  | _,_,_=>.fail)
 | .value f=>(match DY E s f with
  | .fn g first caps=>M g (first++c.args.toList.map (DY E s)++caps) H
  | _=>.fail)
 | _=>.fail
def Qv {L:Type} (kd:IntKind) (n:Int) (lit:Bool) (z:Tr U L) (f:SV U.Ty->Tr U L):List (SV U.Ty)->Tr U L
 | []=>z
 | .lit (.int k a)::v::r=>.when (k=kd) (if lit then (if n=a then f v else Qv kd n lit z f r) else .br (n==a) (f v) (Qv kd n lit z f r))
 | _=>.fail
def Z5y (E:Env) (t:TypeId) (ok:Bool) (m x:SV U.Ty):Tr U (SV U.Ty):=
 match E.ti t,m,asInt x with
 | some ⟨.map k e,_,_,_⟩,.Om kvs,some (kd,n)=>.when (E.kind k=some kd)
  (Qv kd n (isLit x) (match E.ti e with|some q=>(match q.zero with|some z=>.leaf (if ok then .BH [KQ U z,.lit (.bool false)] else KQ U z)|none=>.fail)|none=>.fail)
   (fun v=>.leaf (if ok then .BH [v,.lit (.bool true)] else v)) kvs)
 | _,_,_=>.fail
def mW (E:Env) (M:Iy U) (k:Nat) (H:BF U) (s:List (SV U.Ty)) (o:Oper):Tr U (SV U.Ty×BF U):=
 match o.op with
 | .move x=>.leaf (DY E s x,H)
 | .assign (.const (.slice none 0 0))=>match E.ti o.type with
  | some ⟨.slice e,_,_,_⟩=>.when (U.Au e=(E.size e).getD 0) (.leaf (.all k 0,P9 H k (.row e [] none)))
  | _=>.fail
 | .assign x=>.leaf (DY E s x,H)
 | .pick c a b=>(match DY E s c with
  | .lit (.bool true)=>.leaf (DY E s a,H)
  | .lit (.bool false)=>.leaf (DY E s b,H)
  | .sb t=>(match asBool (DY E s a),asBool (DY E s b) with
   | some x,some y=>.leaf (.sb (cond t x y),H)
   | _,_=>.br t (.leaf (DY E s a,H)) (.leaf (DY E s b,H)))
  | _=>.fail)
 | .alloc t=>match E.ti t with
  | some i=>match i.zero with|some z=>.when (z.cells.length=i.size/\okV z=true) (.leaf (.ptr k 0 0 1,P9 H k (.var t i.size (KQ U z))))|none=>.fail
  | none=>.fail
 | .box t x=>match E.ti t with
  | some i=>.when ((cellsS (DY E s x)).length=i.size/\okS (DY E s x)=true) (.leaf (.ptr k 0 0 1,P9 H k (.var t i.size (DY E s x))))
  | none=>.fail
 | .build t q=>Ju H (.opt (Z54 E t (q.toList.map fun(i,x)=>(i,DY E s x))))
 | .buildSlice t n q=>Z2M E k H t n (q.toList.map fun(i,x)=>(i,DY E s x))
 | .load t a=>Ju H (loadT E H t (DY E s a))
 | .store t a v=>(storeT E H t (DY E s a) (DY E s v)).andThen fun H' =>.leaf (.no,H')
 | .nilCheck x=>(match DY E s x with
  | .ptr a b c d=>.leaf (.ptr a b c d,H)
  | .CQ a b c d=>.leaf (.CQ a b c d,H)
  | .raw (.CQ a b c d)=>.leaf (.raw (.CQ a b c d),H)
  | .fn a b c=>.leaf (.fn a b c,H)
  | _=>.fail)
 | .binOp op t x y _=>Ju H ((binT E op t (DY E s x) (DY E s y)).andThen fun v=>.leaf (if isLit (DY E s x)&&isLit (DY E s y) then Z5F v else v))
 | .unOp op _ x=>Ju H (unT op (DY E s x))
 | .convert C dst x=>if E.isStr C&&E.isBytes dst then Z5n E k H dst (DY E s x) else Ju H (Z5D E H C dst (DY E s x))
 | .makeSlice t l c=>match E.ti t with
  | some ⟨.slice e,_,_,_⟩=>(match zF (DY E s l),zF (DY E s c),E.ti e with
   | some (n,_),some (m,_),some A=>(match A.zero with
    | some z=>(match U.IE e (KQ U z) with
     | some y=>.when (0<A.size/\z.cells.length=A.size/\okV z=true/\U.Au e=A.size)
       (.chk (decide (0<=n/\n<=m/\m.toNat*A.bytes<=lim/\m<=maxLen)) (.leaf (.all k (List.replicate n.toNat y).length,P9 H k (.row e (List.replicate n.toNat y) none))))
     | none=>.fail)
    | none=>.fail)
   | _,_,_=>.fail)
  | _=>.fail
 | .slice t x F D G=>match E.ti t with
  | some ⟨.array n e,_,_,_⟩=>Z4O E H n e (DY E s x) (F.map (DY E s)) (D.map (DY E s)) (G.map (DY E s))
  | _=>sliceT E H t (DY E s x) (F.map (DY E s)) (D.map (DY E s)) (G.map (DY E s))
 | .sliceToArrayPointer t x=>Ju H (arrT E t (DY E s x))
 | .fieldAddr t x f=>Ju H (.opt (Z2Z E t (DY E s x) f))
 | .field t x f=>Ju H (.opt (Z53 E t (DY E s x) f))
 | .indexAddr t x i=>Ju H (Z38 E H t (DY E s x) (DY E s i))
 | .index t x i=>Ju H (Z5h E t (DY E s x) (DY E s i))
 | .extract x i=>(match DY E s x with | .BH vs=>Ju H (.opt vs[i]?)|_=>.fail)
 | .lookup t m x ok=>Ju H (Z5y E t ok (DY E s m) (DY E s x))
 | .makeFunc (.func f) first caps=>.leaf (.fn f (first.toList.map (DY E s)) (caps.toList.map (DY E s)),H)
 | .call c=>Z5x E M k H s c
 | _=>.fail
def stepT (E:Env) (M:Iy U) (ops:Array Oper) (k i:Nat) (st:Dw U):Tr U (Dw U):=
 match ops[i]? with
 | none=>.leaf st
 | some o=>
  let run (st:Dw U):Tr U (Dw U):=(mW E M k st.H st.s o).andThen fun r=>.leaf ⟨Tq st.s o.dst r.1,r.2⟩;let skip (st:Dw U):Tr U (Dw U):=.leaf ⟨Tq st.s o.dst .no,st.H⟩
  match o.guard with
  | none=>run st
  | some (j,q)=>
   match (ops[j]?).bind (·.dst) with
   | none=>.fail
   | some d=>(match st.s.getD d .und with
    | .no=>skip st
    | .lit (.bool true)=>if q then run st else skip st
    | .lit (.bool false)=>if q then skip st else run st
    | .sb b=>.br b (if q then run ⟨st.s.set d (.lit (.bool true)),st.H⟩ else skip ⟨st.s.set d (.lit (.bool true)),st.H⟩)
      (if q then skip ⟨st.s.set d (.lit (.bool false)),st.H⟩ else run ⟨st.s.set d (.lit (.bool false)),st.H⟩)
    | _=>.fail)
def opsT (E:Env) (M:Iy U) (ops:Array Oper):List Nat->Dw U->Tr U (Dw U)
 | [],st=>.leaf st
 | i::q,st=>(stepT E M ops st.H.length i st).andThen (opsT E M ops q)
def TN:SV U.Ty->List Nat
 | .Bi id _ _ _=>[id]
 | .all id _=>[id]
 | .ptr id _ _ _=>[id]
 | .raw v=>EY v
 | _=>[]
def Z5e:SV U.Ty->List Nat
 | .agg cs=>cs.flatMap TN
 | .raw v=>lK v
 | v=>TN v
def lC:SV U.Ty->List Nat
 | .agg cs=>cs.flatMap TN
 | .fn _ a b=>(a++b).flatMap Z5e
 | .raw v=>DW v
 | v=>TN v
def Zi1:SV U.Ty->Bool | .fn _ _ _=>true | .raw v=>zB v|_=>false
def Z5m (E:Env):SV U.Ty->Bool
 | .fn g a b=>Y5 E g&&(a++b).all (fun v=>!Zi1 v)
 | _=>false
def Z5f (E:Env) (s:List (SV U.Ty)) (o:Oper):Bool:=
 match o.op with
 | .call c=>(match c.callee with
  | .value (.tmp t)=>!(E.quiet&&o.type != 0)||Z5m E (s.getD t .und)
  | _=>true)
 | _=>true
def kT (E:Env) (s:List (SV U.Ty)) (o:Oper):List Nat:=o.op.operands.toList.flatMap fun x=>lC (DY E s x)
def Zhb:OH U.Ty->Bool | .dead=>true|_=>false
def Z4K (E:Env) (s:List (SV U.Ty)) (o:Oper):SV U.Ty:=match Qc o with|some a=>DY E s a|_=>.no
def Z4A (H:BF U) (a:SV U.Ty) (k:Nat):Bool:=match a with
 | .ptr id _ _ tot=>id==k&&(match H[id]? with|some (.var _ _ _)=>tot==1|_=>false)
 | .all id _=>id==k&&(match H[id]? with|some (.row _ _ _)=>true|_=>false)
 | _=>false
def yY (base:Nat) (s0:List (SV U.Ty)):Nat⊕Nat->Option Nat
 | .inl j=>some (base+j)
 | .inr d=>match s0.getD d .und with | .ptr id _ _ _=>some id | .all id _=>some id|_=>none
def Z5v (E:Env) (ms:List Nat) (lt:List (Nat×(Nat⊕Nat))) (s0:List (SV U.Ty)) (base i:Nat) (s:List (SV U.Ty)) (H:BF U) (o:Oper):Bool:=
 lt.all fun p=>match yY base s0 p.2 with
  | none=>false
  | some k=>if p.1=i then Z4A H (Z4K E s o) k else !needs E o||(linked ms p.1 i || !(kT E s o).contains k)
def Z55 (E:Env) (M:Iy U) (ops:Array Oper) (ms:List Nat) (lt:List (Nat×(Nat⊕Nat))) (s0:List (SV U.Ty)) (base m i:Nat) (st:Dw U):Tr U (Dw U):=
 match ops[i]? with
 | none=>.leaf st
 | some o=>
  .when ((kT E st.s o).all (fun id=>decide (id<base)||(decide (base+m<=id)&&Xy E ops ms i)||(decide (id<base+m)&&(ms.getD i 0).testBit (id - base)))=true) (.when ((Z5f E st.s o&&Z5v E ms lt s0 base i st.s st.H o&&(!decide (CG E o = .c)||decide (base+m<=st.H.length)))=true)
   (if CG E o = .a then
    match st.H[base+i]? with
    | some b=>if Zhb b then stepT E M ops (base+i) i st else .fail
    | none=>.fail
    else stepT E M ops st.H.length i st))
def jZ (E:Env) (M:Iy U) (ops:Array Oper) (ms:List Nat) (lt:List (Nat×(Nat⊕Nat))) (s0:List (SV U.Ty)) (base m:Nat):List Nat->Dw U->Tr U (Dw U)
 | [],st=>.leaf st
 | i::q,st=>(Z55 E M ops ms lt s0 base m i st).andThen (jZ E M ops ms lt s0 base m q)
def zA (E:Env) (M:Iy U) (ops:Array Oper) (st:Dw U):Tr U (Dw U):=
 let m:=if ops.any (fun o=>decide (CG E o = .a)) then ops.size else 0
 jZ E M ops (GY [] ops.toList) (Qx E ops) st.s st.H.length m (List.range ops.size) ⟨st.s,st.H++List.replicate m .dead⟩
end
structure Du (U:DD) (E:Env):Prop where
 encS:∀t a,AY U (U.encS t a)=U.enc t a
 dec:∀t v a,U.IE t v=some a->ES (E.rows t) (AY U v)=U.enc t a
 cells:∀t a,(U.enc t a).cells=Aw U (cellsS (U.encS t a))
 nr:∀t a,DC (U.enc t a)=true
 inj:∀t∈U.keys,∀a b,U.enc t a=U.enc t b->a=b
section
variable {U:DD}
theorem FH (xs:List (SV U.Ty)):Aw U xs=xs.map (AY U):=by
 induction xs with
 | nil=>rfl
 | cons x xs q=>simp[Aw,q]
theorem Xg (s:List (SV U.Ty)) (t:Nat):(Aw U s).getD t .und=AY U (s.getD t .und):=by
 rw[FH];simp only[List.getD,List.getElem?_map];cases s[t]?<;>rfl
theorem Z4o (v:V):AY U (Tu U v)=v:=by
 unfold Tu;split<;>rfl
theorem Xv (v:V):AY U (KQ U v)=v:=by
 unfold KQ;split
 ·rename_i cs;simp only[AY,FH,List.map_map,V.agg.injEq]
  conv=>rhs;rw[<- List.map_id cs]
  apply List.map_congr_left;intro x _;exact Z4o x
 ·exact Z4o _
theorem GZ (E:Env) (s:List (SV U.Ty)) (x:Operand):ev E (Aw U s) x=AY U (DY E s x):=by
 cases x with
 | tmp t=>exact Xg s t
 | const v=>simp only[ev,DY,Xv]
 | func f=>rfl
 | global g=>simp only[ev,DY];cases E.Ey g<;>rfl
theorem Zge (E:Env) (s:List (SV U.Ty)) (xs:List Operand):xs.map (ev E (Aw U s))=Aw U (xs.map (DY E s)):=by
 rw[FH (xs.map (DY E s)),List.map_map];apply List.map_congr_left;intro x _;exact GZ E s x
theorem Zgc (s:List (SV U.Ty)) (d:Option Tmp) (v:SV U.Ty):Aw U (Tq s d v)=setSlot (Aw U s) d (AY U v):=by
 unfold Tq setSlot;cases d with
 | none=>rfl
 | some t=>simp only[FH,List.map_set]
theorem Us (H:BF U):(BN U H).length=H.length:=by simp[BN]
theorem Nc (H:BF U) (i:Nat):(BN U H)[i]? = (H[i]?).map (DF U):=by simp[BN]
theorem Ql (H:BF U) (i:Nat) (b:OH U.Ty):BN U (H.set i b)=(BN U H).set i (DF U b):=by simp[BN,List.map_set]
theorem Sj (H:BF U) (k:Nat) (b:OH U.Ty):BN U (P9 H k b)=place (BN U H) k (DF U b):=by
 unfold P9 place;rw[Us];split
 ·exact Ql H k b
 ·simp[BN]
theorem Qe {x:SV U.Ty} (h:okS x=true):okV (AY U x)=true:=by
 cases x<;>simp_all [okS,AY,okV]
 grind
theorem Ux {x:SV U.Ty} (h:okS x=true):(AY U x).cells=Aw U (cellsS x):=by
 cases x<;>simp_all [okS,AY,V.cells,cellsS,Aw]
 grind
theorem E8 {L M:Type} (T:Tr U L) (f:L->Tr U M) (y:M):(T.andThen f).AZ y↔∃x,T.AZ x/\(f x).AZ y:=by
 induction T with
 | leaf l=>simp[Tr.andThen,Tr.AZ]
 | br c a b z A=>
  simp only[Tr.andThen,Tr.AZ,z,A]
  grind
 | bind t o k q=>
  simp only[Tr.andThen,Tr.AZ,q]
  grind
 | chk c a q=>
  simp only[Tr.andThen,Tr.AZ,q]
  grind
 | fail=>simp[Tr.andThen,Tr.AZ]
theorem PS {L:Type} {o:Option L} {x:L}:(Tr.opt (U:=U) o).AZ x↔o=some x:=by
 cases o<;>simp[Tr.opt,Tr.AZ]
theorem Em {L:Type} {p:Prop} [Decidable p] {a:Tr U L} {x:L}:(Tr.when p a).AZ x↔p/\a.AZ x:=by
 unfold Tr.when;split<;>simp_all [Tr.AZ]
theorem IK {L:Type} {H:BF U} {id tot:Nat} {k:(t:Nat)->List (U.Ty t)->Option Nat->Tr U L} {y:L} (h:(rowAt H id tot k).AZ y) :
  ∃t xs fl,H[id]? = some (.row t xs fl)/\xs.length=tot/\(k t xs fl).AZ y/\Dn (BN U H) id tot=some (DF U (.row t xs fl)):=by
 unfold rowAt at h;split at h
 ·rename_i t xs fl hb;simp only[Tr.AZ,beq_iff_eq]at h;refine⟨t,xs,fl,hb,h.1,h.2,?_⟩;unfold Dn;rw[Nc,hb];simp[DF,h.1]
 ·simp[Tr.AZ]at h
theorem Z4v {H:BF U} {x y:SV U.Ty} (h:(Oh H x).AZ y):Ia (BN U H) (AY U x)=some (AY U y):=by
 unfold Oh at h;split at h<;>(try (simp only[Tr.AZ]at h;subst h;rfl))
 ·obtain⟨t,xs,fl,C,A,q,z⟩:=IK h;simp only[Tr.AZ]at q;subst q;subst A;simp only[AY,Ia,z];simp only[DF,Nat.zero_add,Nat.le_refl,decide_true,Bool.and_self,if_true,List.drop_zero,Option.some.injEq,V.sl.injEq,true_and];exact List.take_of_length_le (by simp)
 ·obtain⟨t,xs,fl,C,A,q,z⟩:=IK h;simp only[Tr.AZ,decide_eq_true_eq]at q;obtain⟨q,rfl⟩:=q;simp only[AY,Ia,z];simp[DF,q,List.map_take,List.map_drop]
 ·simp[Tr.AZ]at h
theorem ZBx {H:BF U}:∀{xs ys:List (SV U.Ty)},(V4 H xs).AZ ys->KE (BN U H) (Aw U xs)=some (Aw U ys):=by
 intro xs;induction xs with
 | nil=>intro ys h;simp only[V4,Tr.AZ]at h;subst h;rfl
 | cons x xs A=>
  intro ys h;simp only[V4,E8,Tr.AZ]at h;obtain⟨w,q,ws,z,rfl⟩:=h;simp only[Aw,KE,Z4v q,A z]
theorem xX {H:BF U} {x y:SV U.Ty} (h:(Tm H x).AZ y):Ic (BN U H) (AY U x)=some (AY U y):=by
 unfold Tm at h;split at h
 ·rename_i cs;simp only[E8,Tr.AZ]at h;obtain⟨ws,q,rfl⟩:=h;simp only[AY,Ic,ZBx q,Option.map_some]
 ·rename_i A;have:=Z4v h;unfold Ic;split
  ·rename_i cs z;exfalso;cases x<;>simp_all [AY,Oh,Tr.AZ]
  ·exact this
theorem Z3v {H:BF U}:∀{xs ys:List (SV U.Ty)},(Qi H xs).AZ ys->Fg (BN U H) (Aw U xs)=some (Aw U ys):=by
 intro xs;induction xs with
 | nil=>intro ys h;simp only[Qi,Tr.AZ]at h;subst h;rfl
 | cons x xs A=>
  intro ys h;simp only[Qi,E8,Tr.AZ]at h;obtain⟨w,q,ws,z,rfl⟩:=h;simp only[Aw,Fg,xX q,A z]
theorem Zg2 (x:SV U.Ty):F7 (AY U x)=Pq x:=by
 cases x<;>simp[AY,F7,Pq]
theorem Z4f (x:SV U.Ty):EF (AY U x)=OE x:=by
 cases x<;>simp[AY,EF,OE,Pq,F7];rename_i cs;rw[FH,List.flatMap_map];simp[Zg2]
theorem Z3Z (xs:List (SV U.Ty)):(Aw U xs).flatMap EF=xs.flatMap OE:=by
 rw[FH,List.flatMap_map];simp[Z4f]
theorem ZfD (x:SV U.Ty):EY (AY U x)=TN x:=by
 cases x<;>simp[AY,EY,TN]
theorem ZAV (x:SV U.Ty):lK (AY U x)=Z5e x:=by
 cases x<;>simp[AY,lK,Z5e,TN,EY];rename_i cs;rw[FH,List.flatMap_map];simp[ZfD]
theorem ZzX (x:SV U.Ty):DW (AY U x)=lC x:=by
 cases x with
 | agg cs=>
  simp only[AY,DW,lC];rw[FH,List.flatMap_map];simp[ZfD]
 | fn f a b=>
  simp only[AY,DW,lC];rw[FH,FH,<- List.map_append,List.flatMap_map];simp[ZAV]
 | _=>simp[AY,DW,lC,TN,EY]
theorem Xt (H:BF U):∀(ids:List Nat),(∀i∈ids,∃t xs fl,H[i]? = some (.row t xs fl))->BN U (Qy H ids)=bump (BN U H) ids:=by
 intro ids;induction ids generalizing H with
 | nil=>intro _;rfl
 | cons i D C=>
  intro h;simp only[Qy,bump];have z:BN U (H.modify i xU)=(BN U H).modify i fun b=>{ b with floor:=b.xs.length }:=by
   apply List.ext_getElem?;intro j;simp only[BN,List.getElem?_map,List.getElem?_modify]
   by_cases q:i=j
   ·subst q;obtain⟨t,xs,fl,hb⟩:=h i (by simp);simp[hb,xU,DF]
   ·simp[q]
  rw[C,z];intro j A;obtain⟨t,xs,fl,hb⟩:=h j (by simp[A])
  by_cases q:i=j
  ·subst q;exact⟨t,xs,some xs.length,by simp[List.getElem?_modify,hb,xU]⟩
  simp_all
theorem Z3k {H:BF U} {x y:SV U.Ty} (h:(Oh H x).AZ y):∀i∈Pq x,∃t xs fl,H[i]? = some (.row t xs fl):=by
 intro i z;unfold Oh at h;split at h<;>(try (simp[Pq]at z))
 ·obtain⟨t,xs,fl,q,_⟩:=IK h
  simp_all
 ·obtain⟨t,xs,fl,q,_⟩:=IK h
  simp_all
 ·simp[Tr.AZ]at h
theorem Zx8 {H:BF U}:∀{xs ys:List (SV U.Ty)},(V4 H xs).AZ ys->∀i∈xs.flatMap Pq,∃t xs fl,H[i]? = some (.row t xs fl):=by
 intro xs;induction xs with
 | nil=>simp_all
 | cons x xs A=>
  intro ys h i hi;simp only[V4,E8,Tr.AZ]at h;obtain⟨w,q,ws,z,rfl⟩:=h;simp only[List.flatMap_cons,List.mem_append]at hi;rcases hi with hi|hi
  ·exact Z3k q i hi
  ·exact A z i hi
theorem ZeO {H:BF U} {x y:SV U.Ty} (h:(Tm H x).AZ y):∀i∈OE x,∃t xs fl,H[i]? = some (.row t xs fl):=by
 unfold Tm at h;split at h
 ·simp only[E8,Tr.AZ]at h;obtain⟨ws,q,rfl⟩:=h;exact Zx8 q
 ·rename_i z;intro i A;refine Z3k h i ?_;cases x<;>simp_all [OE,Pq];simp[Oh,Tr.AZ]at h
theorem ZbP {H:BF U}:∀{xs ys:List (SV U.Ty)},(Qi H xs).AZ ys->∀i∈xs.flatMap OE,∃t xs fl,H[i]? = some (.row t xs fl):=by
 intro xs;induction xs with
 | nil=>simp_all
 | cons x xs A=>
  intro ys h i hi;simp only[Qi,E8,Tr.AZ]at h;obtain⟨w,q,ws,z,rfl⟩:=h;simp only[List.flatMap_cons,List.mem_append]at hi;rcases hi with hi|hi
  ·exact ZeO q i hi
  ·exact A z i hi
theorem Xu (cs:List (SV U.Ty)) (off n:Nat) (b:Bool):partOf (Aw U cs) off n b=(TT cs off n b).map (AY U):=by
 unfold partOf TT;simp only[FH,List.length_map];split
 ·split
  ·simp[AY,FH,List.map_take,List.map_drop]
  ·rfl
 ·simp
theorem Jh (cs:List (SV U.Ty)):(Aw U cs).length=cs.length:=by simp[FH]
theorem Zds {x:SV U.Ty} {off:Nat} {cs:List (SV U.Ty)} {y:SV U.Ty} (h:xQ x off cs=some y):Nk (AY U x) off (Aw U cs)=some (AY U y):=by
 unfold xQ at h;split at h
 ·rename_i ds;split at h
  ·rename_i q;simp only[Option.some.injEq]at h;subst h;simp only[AY,Nk,Jh,q,if_true];simp[FH,List.map_take,List.map_drop]
  ·cases h
 ·cases h
 ·rename_i A C;split at h
  ·rename_i c;simp only[Option.some.injEq]at h;subst h;have:∀ds,AY U x≠.agg ds:=by
    intro ds z;cases x<;>simp_all [AY]
   unfold Nk;split
   ·simp_all
   ·simp[Aw]
  ·cases h
theorem Z3I {H:BF U} {id:Nat} {e n:Nat} {x:SV U.Ty} (h:H[id]? = some (.var e n x)):Dn (BN U H) id 1=some (CB false false e n [AY U x]):=by
 unfold Dn;rw[Nc,h];simp[DF,CB]
theorem Zfk {H:BF U} {id tot:Nat} {t:Nat} {xs:List (U.Ty t)} {fl:Option Nat} (h:H[id]? = some (.row t xs fl)) (hl:xs.length=tot):Dn (BN U H) id tot=some (DF U (.row t xs fl)):=by
 unfold Dn;rw[Nc,h];simp[DF,hl]
theorem Z48 {E:Env} (A:Du U E) {e:Nat}:∀{vs:List (SV U.Ty)} {ys:List (U.Ty e)},TJ e vs=some ys->(Aw U vs).map (ES (E.rows e))=ys.map (U.enc e)/\∀v∈vs,okS v=true:=by
 intro vs;induction vs with
 | nil=>intro ys h;simp only[TJ,Option.some.injEq]at h;subst h;simp[Aw]
 | cons v vs D=>
  intro ys h;simp only[TJ]at h;split at h
  ·rename_i a as F q z;simp only[Option.some.injEq]at h;subst h;obtain⟨C,G⟩:=D z;refine⟨by simp only[Aw,List.map_cons,C,A.dec _ _ _ q],?_⟩
   simp_all
  ·cases h
theorem ZG7 {E:Env} (C:Du U E) {t:Nat} {cs:List V} {ys:List (U.Ty t)} {j:Nat} {x:U.Ty t} (F:TJ t (cs.map (Tu U))=some ys) (hl:cs.all JU=true) (hx:ys[j]? = some x):cs[j]? = some (AY U (U.encS t x)):=by
 obtain⟨A,-⟩:=Z48 C F;have D:Aw U (cs.map (Tu U))=cs:=by
  rw[FH,List.map_map];exact(List.map_congr_left fun v _=>Z4o v).trans (List.map_id cs)
 rw[D]at A;have q:=congrArg (·[j]?) A;simp only[List.getElem?_map,hx,Option.map_some]at q;cases hc:cs[j]? with
 | none=>simp[hc]at q
 | some v=>
  simp only[hc,Option.map_some,Option.some.injEq]at q;have hv:=List.all_eq_true.1 hl v (List.mem_of_getElem? hc);cases v with
  | lit z=>rw[C.encS,<- q];rfl
  | _=>simp[JU]at hv
theorem ZfO {E:Env} (q:Du U E) {H:BF U} {t:TypeId} {a y:SV U.Ty} (h:(loadT E H t a).AZ y):Nz E (BN U H) t (AY U a)=some (AY U y):=by
 unfold loadT at h;split at h
 ·simp[Tr.AZ]at h
 ·rename_i i I;unfold Nz;rw[I];simp only;split at h
  ·rename_i D xs j off;simp only[Tr.AZ,PS]at h;obtain⟨x,hx,hp⟩:=h;simp only[AY,P7,List.getElem?_map,hx,Option.map_some];rw[q.cells,Xu,hp];rfl
  ·rename_i id j off tot;split at h
   ·rename_i e n x hb;simp only[Em,PS]at h;obtain⟨⟨rfl,rfl,A⟩,hp⟩:=h;simp only[AY,Z3I hb,CB,P7,List.getElem?_cons_zero];rw[Ux A,Xu,hp];rfl
   ·rename_i D xs fl hb;simp only[Tr.AZ,PS,beq_iff_eq]at h;obtain⟨hl,x,hx,hp⟩:=h;simp only[AY,Zfk hb hl,DF,P7,List.getElem?_map,hx,Option.map_some];rw[q.cells,Xu,hp];rfl
   ·simp[Tr.AZ]at h
  ·rename_i e z;simp only[PS]at h;simp only[AY,P7,List.getElem?_cons_zero];rw[show (V.lit z).cells=Aw U [SV.lit z] from rfl,Xu,h];rfl
  ·rename_i e cs off;simp only[PS]at h;cases hp:partOf cs off i.size i.isAgg with
   | none=>simp[hp]at h
   | some v=>
    simp only[hp,Option.map_some,Option.some.injEq]at h;subst h;simp only[AY,P7,List.getElem?_cons_zero,V.cells,hp,Xv]
  ·rename_i d cs off;split at h
   ·rename_i ys C;simp only[Em,Tr.AZ]at h;obtain⟨⟨J,F,G⟩,x,hx,rfl⟩:=h;simp only[AY,P7,List.getElem?_cons_zero,V.cells,partOf,F,ZG7 q C G hx,Bool.false_eq_true,if_false]
   ·simp[Tr.AZ]at h
  ·simp[Tr.AZ]at h
theorem ZAZ {E:Env} (S:Du U E) {H H' : BF U} {t:TypeId} {a v:SV U.Ty} (h:(storeT E H t a v).AZ H'):Nl E (BN U H) t (AY U a) (AY U v)=some (BN U H'):=by
 unfold storeT at h;split at h
 ·simp[Tr.AZ]at h
 ·rename_i i hi;unfold Nl;rw[hi];simp only;split at h
  ·rename_i id j off tot;split at h
   ·rename_i e n x hb;simp only[Em]at h;obtain⟨⟨⟨rfl,rfl⟩,hl,q,Y⟩,h⟩:=h;split at h
    ·rename_i x' C;simp only[Em,Tr.AZ]at h;obtain⟨F,rfl⟩:=h;simp only[AY,Z3I hb,CB,List.getElem?_cons_zero];rw[Ux q,Jh,hl,Zds C,Qe q];simp[Qe F,Ql,DF,CB]
    ·simp[Tr.AZ]at h
   ·rename_i Q xs fl hb;simp only[Em,Tr.AZ,E8,Bool.and_eq_true,beq_iff_eq,decide_eq_true_eq]at h;obtain⟨⟨hl,q,O⟩,⟨D,N⟩,x,hx,v',M,h⟩:=h;split at h
    ·rename_i x' C;split at h
     ·rename_i y hy;simp only[Em,Tr.AZ]at h;obtain⟨⟨A,G⟩,rfl⟩:=h;simp only[AY,Zfk hb D,DF,List.getElem?_map,hx,Option.map_some];rw[Ux q,Jh,hl,Qe q];have hc:(Ic (BN U H) (AY U v))=some (AY U v'):=xX M;have J:=Zds C;rw[S.encS]at J;have z:=S.dec Q x' y hy;have I:okV (U.enc Q y)=true:=by rw[<- z,wH];exact Qe G
      rw[hc];simp only[Ux A,J,Option.map_some,z,I,Qe A,Z4f,O,beq_self_eq_true,Bool.and_self,Bool.and_true,decide_eq_true N,if_true,Bool.not_true,Bool.or_self,Bool.false_eq_true,if_false];rw[Ql,Xt H _ (ZeO M)];simp[DF,List.map_set]
     ·simp[Tr.AZ]at h
    ·simp[Tr.AZ]at h
   ·simp[Tr.AZ]at h
  ·simp[Tr.AZ]at h
end
section
variable {U:DD}
theorem MB {x:SV U.Ty} {k:IntKind} {a:Int} (h:asInt x=some (k,a)):AY U x = .lit (.int k a):=by
 unfold asInt at h;split at h<;>simp_all [AY]
theorem Q9 {x:SV U.Ty} {s:ByteArray} (h:KD x=some s):AY U x = .lit (.string s):=by
 unfold KD at h;split at h<;>simp_all [AY]
theorem Uw {x:SV U.Ty} {b:Bool} (h:asBool x=some b):AY U x = .lit (.bool b):=by
 unfold asBool at h;split at h<;>simp_all [AY]
theorem Zf8 {x:SV U.Ty} {n:Int} {l:Bool} (h:zF x=some (n,l)):∃k,AY U x = .lit (.int k n):=by
 unfold zF at h;split at h<;>simp_all [AY]
theorem ZE7 {op:BinOp} {k:IntKind} {a b:Int} {l:Bool} {y:SV U.Ty} (h:(intT op k a b l).AZ y):(Po op k a b).map V.lit=some (AY U y):=by
 unfold intT at h;cases op<;>simp only[Tr.AZ]at h<;>(try (subst h;rfl))<;>(try (exact h.elim))
 ·split at h
  ·split at h
   ·simp[Tr.AZ]at h
   ·rename_i hb;simp only[Tr.AZ]at h;subst h;simp[Po,hb,AY]
  ·simp only[Tr.AZ,bne_iff_ne,ne_eq]at h;obtain⟨hb,rfl⟩:=h;simp[Po,hb,AY]
 ·split at h
  ·split at h
   ·simp[Tr.AZ]at h
   ·rename_i hb;simp only[Tr.AZ]at h;subst h;simp[Po,hb,AY]
  ·simp only[Tr.AZ,bne_iff_ne,ne_eq]at h;obtain⟨hb,rfl⟩:=h;simp[Po,hb,AY]
theorem Zfm {op:BinOp} {k:IntKind} {a b:Int} {l:Bool} {y:SV U.Ty} (h:(yI op k a b l).AZ y):(Qj op k a b).map V.lit=some (AY U y):=by
 unfold yI at h;split at h
 ·simp[Tr.AZ]at h
 ·rename_i r hr;have key:∀(hb:¬b<0) (q:SV.si k r=y),(Qj op k a b).map V.lit=some (AY U y):=by
   intro hb q;subst q;unfold Qj;unfold ZhB at hr;split at hr<;>simp_all [AY]
  split at h
  ·split at h
   ·simp[Tr.AZ]at h
   ·rename_i hb;exact key hb h
  ·simp only[Tr.AZ,decide_eq_true_eq]at h
   simp_all
theorem ZDO {op:BinOp} {x y:ByteArray} {z:SV U.Ty} (h:(strT op x y).AZ z):(YL op x y).map V.lit=some (AY U z):=by
 unfold strT at h;cases op<;>simp only[Tr.AZ]at h<;>(try (subst h;rfl))<;>(try (exact h.elim));obtain⟨hb,rfl⟩:=h;simp only[decide_eq_true_eq]at hb;simp[YL,hb,AY]
theorem Zv2:∀{ks:List FK} {xs ys:List (SV U.Ty)} {r:Bool},O6 ks xs ys=some r->Jl ks (Aw U xs) (Aw U ys)=some r:=by
 intro ks;induction ks with
 | nil=>
  intro xs ys r h;unfold O6 at h;split at h<;>simp_all [Aw,Jl]
 | cons k ks C=>
  intro xs ys r h;cases xs with
  | nil=>cases k<;>simp[O6]at h
  | cons x xs=>
   cases ys with
   | nil=>cases k<;>simp[O6]at h
   | cons y ys=>
    cases k with
    | b=>
     simp only[O6]at h;split at h
     ·rename_i a b D q z A;simp only[Option.some.injEq]at h;subst h;simp only[Aw,Uw q,Uw z,Jl,C A]
     ·cases h
    | i k=>
     simp only[O6]at h;split at h
     ·rename_i k1 a k2 b D q z A;split at h
      ·rename_i hk;simp only[Option.some.injEq]at h;subst h;simp only[Aw,MB q,MB z,Jl,C A,hk,and_self,if_true]
      ·cases h
     ·cases h
    | s=>
     simp only[O6]at h;split at h
     ·rename_i a b D q z A;simp only[Option.some.injEq]at h;subst h;simp only[Aw,Q9 q,Q9 z,Jl,C A]
     ·cases h
theorem ZCS {E:Env} {op:BinOp} {t:TypeId} {x y z:SV U.Ty} (h:(binT E op t x y).AZ z):OL E op t (AY U x) (AY U y)=some (AY U z):=by
 unfold binT at h;split at h
 ·rename_i xs ys;split at h
  ·rename_i ks A;split at h
   ·rename_i b hb;have:=Zv2 hb;split at h
    ·simp only[Tr.AZ]at h;subst h;simp only[AY,OL,A,this,Option.map_some]
    ·simp only[Tr.AZ]at h;subst h;simp only[AY,OL,A,this,Option.map_some]
    ·simp[Tr.AZ]at h
   ·simp[Tr.AZ]at h
  ·simp[Tr.AZ]at h
 ·split at h
  ·rename_i k a j b q hb;rw[MB q,MB hb];split at h
   ·exact Zfm h
   ·exact Zfm h
   ·rename_i D F;split at h
    ·rename_i hk;have G:=ZE7 h;subst hk;have hb:OL E op t (.lit (.int k a)) (.lit (.int k b))=(Po op k a b).map V.lit:=by
      cases op<;>first|exact absurd rfl D|exact absurd rfl F|simp[OL]
     simp_all
    ·simp[Tr.AZ]at h
  ·split at h
   ·rename_i a b q hb;rw[Q9 q,Q9 hb];have:=ZDO h;unfold OL;split<;>simp_all
   ·split at h
    ·rename_i a b q hb;rw[Uw q,Uw hb];split at h
     ·rename_i C;split at h
      ·simp only[Tr.AZ]at h;subst h;simp[OL,C,AY]
      ·simp only[Tr.AZ]at h;subst h;simp[OL,C,AY]
      ·simp[Tr.AZ]at h
     ·simp[Tr.AZ]at h
    ·simp[Tr.AZ]at h
theorem ZF2 {op:UnOp} {x z:SV U.Ty} (h:(unT op x).AZ z):mZ op (AY U x)=some (AY U z):=by
 unfold unT at h;split at h
 ·rename_i k n hk;simp only[Tr.AZ]at h;subst h;rw[MB hk];rfl
 ·rename_i k n hk;simp only[Tr.AZ]at h;subst h;rw[MB hk];rfl
 ·rename_i b _ hb;simp only[Tr.AZ]at h;subst h;rw[Uw hb];rfl
 ·simp[Tr.AZ]at h
theorem ZFl {q:Bool} {k:IntKind}:∀{xs:List (SV U.Ty)} {a r:Int},mX q k a xs=some r->mm q k a (Aw U xs)=some (.lit (.int k r)):=by
 intro xs;induction xs with
 | nil=>intro a r h;simp only[mX,Option.some.injEq]at h;subst h;rfl
 | cons x xs A=>
  intro a r h;simp only[mX]at h;split at h
  ·rename_i j b z;split at h
   ·rename_i hk;simp only[Aw,MB z,mm,hk,if_true];exact hk▸A h
   ·cases h
  ·cases h
theorem ZdH {q:Bool} {xs:List (SV U.Ty)} {z:SV U.Ty} (h:(xR q xs).AZ z):Qq q (Aw U xs)=some (AY U z):=by
 unfold xR at h;split at h
 ·rename_i x A;split at h
  ·rename_i k a hk;split at h
   ·rename_i r hr;simp only[Tr.AZ]at h;subst h;simp only[Aw,MB hk,Qq,AY];exact ZFl hr
   ·simp[Tr.AZ]at h
  ·simp[Tr.AZ]at h
 ·simp[Tr.AZ]at h
def Nr (q:List (Nat×SV U.Ty)):List (Nat×V):=q.map fun(i,x)=>(i,AY U x)
theorem ZfP {place:Nat->Option (Nat×Nat)}:∀{q:List (Nat×SV U.Ty)} {cs z : List (SV U.Ty)},TV cs q place=some z -> QB (Aw U cs) (Nr q) place=some (Aw U z):=by
 intro q;induction q with
 | nil=>intro cs z h;simp only[TV,Option.some.injEq]at h;subst h;rfl
 | cons p q F=>
  intro cs z h;obtain⟨i,v⟩:=p;simp only[TV]at h;split at h
  ·cases h
  ·rename_i off size hp;split at h
   ·rename_i hc;simp only[Bool.and_eq_true,beq_iff_eq,decide_eq_true_eq]at hc;obtain⟨⟨C,D⟩,A⟩:=hc;have:=F h;simp only[Nr,List.map_cons,QB,hp];rw[Ux A,Jh,C,Jh,Qe A];simp only[beq_self_eq_true,D,decide_true,Bool.and_self,if_true];rw[<- this];simp only[Nr,FH,List.map_append,List.map_take,List.map_drop]
   ·cases h
theorem cells_toV' {x:SV U.Ty} (h:∀cs,x≠.raw (.agg cs)):(AY U x).cells=Aw U (cellsS x):=by
 cases x with
 | raw v=>
  cases v with
  | agg cs=>exact absurd rfl (h cs)
  | _=>rfl
 | _=>rfl
theorem Zf1 {z:V}:Aw U (cellsS (KQ U z))=z.cells:=by
 have hr:∀cs,KQ U z≠.raw (.agg cs):=by
  intro cs q;unfold KQ at q;split at q
  ·cases q
  ·rename_i A;unfold Tu at q;split at q<;>(try cases q);simp at A
 rw[<- cells_toV' hr,Xv]
theorem ZAB {E:Env} {t:TypeId} {q:List (Nat×SV U.Ty)} {y:SV U.Ty} (h:Z54 E t q=some y):YE E t (Nr q)=some (AY U y):=by
 unfold Z54 at h;unfold YE;split at h
 ·rename_i i I;rw[I];split at h
  ·rename_i z hz;simp only[hz];split at h
   ·rename_i F;rw[if_pos F];split at h
    ·rename_i fs A;simp only[A];split at h
     ·rename_i C;rw[if_pos C];cases hf:TV (cellsS (KQ U z)) q (placesOf E fs) with
      | none=>simp[hf]at h
      | some cs=>
       simp only[hf,Option.map_some,Option.some.injEq]at h;subst h;have:=ZfP hf;rw[Zf1]at this;simp only[this,Option.map_some,AY]
     ·cases h
    ·rename_i len e A;simp only[A];split at h
     ·rename_i G D;simp only[D];cases hf:TV (cellsS (KQ U z)) q (fun i=>some (i*G.size,G.size)) with
      | none=>simp[hf]at h
      | some cs=>
       simp only[hf,Option.map_some,Option.some.injEq]at h;subst h;have:=ZfP hf;rw[Zf1]at this;simp only[this,Option.map_some,AY]
     ·cases h
    ·cases h
   ·cases h
  ·cases h
 ·cases h
theorem ZvX (sz:Nat):∀(vs pre post:List V),(∀v∈vs,v.cells.length=sz/\okV v=true)->vs.length<=post.length ->
  Ns (pre++post) sz ((List.range' pre.length vs.length).zip vs)=some (pre++vs++post.drop vs.length):=by
 intro vs;induction vs with
 | nil=>intro pre post _ _;simp[Ns]
 | cons v vs C=>
  intro pre post h hl;cases post with
  | nil=>simp at hl
  | cons p post=>
   simp only[List.length_cons,List.range'_succ,List.zip_cons_cons,Ns];obtain⟨z,A⟩:=h v (by simp);have q:(pre++p::post).set pre.length v=(pre++[v])++post:=by simp
   have:=C (pre++[v]) post (fun x hx=>h x (by simp[hx])) (by simpa using hl);rw[List.length_append,List.length_singleton]at this;rw[z,A,q,this];simp
theorem Zpr {E:Env} (hU:Du U E) {k:Nat} {H H' : BF U} {t:TypeId} {n:Nat} {q:List (Nat×SV U.Ty)} {y:SV U.Ty} (h:(Z2M E k H t n q).AZ (y,H')) :
  QW E k (BN U H) t n (Nr q)=some (AY U y,BN U H'):=by
 unfold Z2M at h;unfold QW;split at h
 ·rename_i e sz by' z0 S;rw[S];simp only;split at h
  ·rename_i ei N;simp only[N];split at h
   ·rename_i z hz;simp only[E8]at h;obtain⟨vs,J,h⟩:=h;split at h
    ·rename_i ys Y;simp only[Em,Tr.AZ,Prod.mk.injEq]at h;obtain⟨⟨⟨c1,c2,c3,c4⟩,c5,c6,c7⟩,rfl,rfl⟩:=h;have Q:(Nr q).map (·.2)=Aw U (q.map (·.2)):=by
      rw[FH];simp[Nr]
     have O:(Nr q).map (·.1)=List.range n:=by rw[<- c5];simp[Nr]
     obtain⟨M,d2⟩:=Z48 hU Y;have hf:=Z3v J;have G:(Aw U vs).length=n:=by
      rw[<- Zqd hf,Jh,List.length_map,<- List.length_map (f:=(·.1)) (as:=q),c5,List.length_range]
     have C : (ys.map (U.enc e)).length=n:=by rw[<- M,List.length_map,G]
     have D:(n==0 && !(Nr q).isEmpty)=false:=by
      cases hn:n with
      | zero=>
       simp_all
      | succ m=>simp
     rw[hz,Q,hf];simp only;rw[if_pos ⟨c1,c2,c3,c4,D⟩,O,M];have A:=ZvX ei.size (ys.map (U.enc e)) [] (List.replicate n (ES (E.rows e) z)) (by
      intro v hv;rw[<- M]at hv;obtain⟨w,hw,rfl⟩:=List.mem_map.1 hv;rw[FH]at hw;obtain⟨s,hs,rfl⟩:=List.mem_map.1 hw;have I:=d2 s hs;rw[wH,ZvY];refine⟨?_,Qe I⟩;rw[Ux I,Jh];simpa using List.all_eq_true.1 c6 s hs) (by rw[C];simp)
     rw[C]at A;simp only[List.length_nil,List.nil_append]at A;rw[show List.range n=List.range' 0 n from List.range_eq_range' ..,A];have F:List.drop n (List.replicate n (ES (E.rows e) z))=[]:=by simp
     rw[F,List.append_nil,Sj,Z3Z,Xt H _ (ZbP J)];simp[AY,DF,CB,c7]
    ·simp[Tr.AZ]at h
   ·simp[Tr.AZ]at h
  ·simp[Tr.AZ]at h
 ·simp[Tr.AZ]at h
theorem ZpL {E:Env} {s:TypeId} {x y:SV U.Ty} {f:Nat} (h:Z2Z E s x f=some y):X5 E s (AY U x) f=some (AY U y):=by
 unfold Z2Z at h;unfold X5;split at h
 ·rename_i fs sz by' C q;rw[q];simp only;split at h
  ·rename_i o t A;rw[A];simp only;split at h
   ·rename_i n z;simp only[z];split at h
    ·cases h
    ·rename_i hz;rw[if_neg hz];split at h
     ·simp only[Option.some.injEq]at h;subst h;rfl
     ·simp only[Option.some.injEq]at h;subst h;rfl
     ·simp only[Option.some.injEq]at h;subst h;rfl
     ·cases h
   ·cases h
  ·cases h
 ·cases h
theorem ZzI {E:Env} {s:TypeId} {x y:SV U.Ty} {f:Nat} (h:Z53 E s x f=some y):YK E s (AY U x) f=some (AY U y):=by
 unfold Z53 at h;unfold YK;split at h
 ·rename_i fs sz by' C cs q;rw[q];simp only[AY];split at h
  ·rename_i o t A;rw[A];simp only;split at h
   ·rename_i i z;simp only[z,Xu,h,Option.map_some]
   ·cases h
  ·cases h
 ·cases h
theorem dB {L:Type} {n:Int} {lit:Bool} {len:Nat} {k:Nat->Tr U L} {y:L} (h:(VM n lit len k).AZ y):(0<=n/\n<len)/\(k n.toNat).AZ y:=by
 unfold VM at h;split at h
 ·split at h
  ·simp_all
  ·simp[Tr.AZ]at h
 ·revert h
  suffices hh:∀l:List Nat,(∀i∈l,i<len)->(l.foldr (fun(i:Nat) q=>Tr.br (n==(i:Int)) (k i) q) .fail).AZ y->(0<=n/\n<len)/\(k n.toNat).AZ y from
   fun h=>hh _ (fun i z=>by simpa using z) h
  intro l;induction l with
  | nil=>intro _ h;simp[Tr.AZ]at h
  | cons i l C=>
   intro hl h;simp only[List.foldr_cons,Tr.AZ,beq_iff_eq]at h;rcases h with ⟨A,hr⟩|⟨_,hr⟩
   ·simp_all
   simp_all
theorem ZqS {E:Env} {H:BF U} {t:TypeId} {x i y:SV U.Ty} (h:(Z38 E H t x i).AZ y):Q3 E (BN U H) t (AY U x) (AY U i)=some (AY U y):=by
 unfold Z38 at h;unfold Q3;split at h
 ·rename_i Q n ti J G;rw[MB J,G];simp only;split at h
  ·rename_i O C;simp only[C];split at h
   ·rename_i F xs;simp only[Em,Tr.AZ,decide_eq_true_eq]at h;obtain⟨z,A,rfl⟩:=h;simp only[AY,List.length_map,A,z,and_self,if_true]
   ·rename_i F xs;simp only[Em,Tr.AZ,decide_eq_true_eq]at h;obtain⟨z,A,rfl⟩:=h;simp only[AY,List.length_map,A,z,and_self,if_true]
   ·rename_i id m;obtain⟨F,xs,fl,M,N,D,I⟩:=IK h;simp only[Em,Tr.AZ,decide_eq_true_eq]at D;obtain⟨z,A,rfl⟩:=D;simp only[AY,I,DF,A,z,and_self,if_true,Nat.zero_add]
   ·rename_i id off len tot;obtain⟨F,xs,fl,M,N,D,I⟩:=IK h;simp only[Em,Tr.AZ,decide_eq_true_eq]at D;obtain⟨z,A,rfl⟩:=D;simp only[AY,I,DF,A,z,and_self,if_true]
   ·simp[Tr.AZ]at h
  ·rename_i len e C;simp only[C];split at h
   ·simp[Tr.AZ]at h
   ·rename_i sz q;split at h
    ·obtain⟨hb,h⟩:=dB h;simp only[Tr.AZ]at h;subst h;simp only[AY,q,hb,and_self,if_true]
    ·obtain⟨hb,h⟩:=dB h;simp only[Tr.AZ]at h;subst h;simp only[AY,q,hb,and_self,if_true]
    ·split at h
     ·rename_i hc;simp only[Bool.and_eq_true,decide_eq_true_eq]at hc;simp only[Tr.AZ,decide_eq_true_eq]at h;obtain⟨hb,rfl⟩:=h;simp only[AY,q,hb,and_self,if_true,hc.1,Nat.mul_one,Nat.zero_add]
     ·obtain⟨hb,h⟩:=dB h;simp only[Tr.AZ]at h;subst h;simp only[AY,q,hb,and_self,if_true]
    ·obtain⟨hb,h⟩:=dB h;simp only[Tr.AZ]at h;subst h;simp only[AY,q,hb,and_self,if_true]
    ·simp[Tr.AZ]at h
  ·simp[Tr.AZ]at h
 ·simp[Tr.AZ]at h
theorem ZBZ {s:ByteArray} {n:Nat} (h:n<s.size):s[n]? = some (s.get! n):=by
 rw[getElem?_pos s n h];cases s with
 | mk d=>
  have q:n<d.size:=h;show some d[n]=some d[n]!
  simp_all
theorem ZzU {E:Env} {t:TypeId} {x i y:SV U.Ty} (h:(Z5h E t x i).AZ y):YD E t (AY U x) (AY U i)=some (AY U y):=by
 unfold Z5h at h;unfold YD;split at h
 ·rename_i M n F;rw[MB F];simp only;split at h
  ·rename_i len e sz by' G cs q;rw[q];simp only[AY];split at h
   ·rename_i I z;obtain⟨hb,h⟩:=dB h;rw[PS]at h;simp only[z,hb,and_self,if_true,Xu,h,Option.map_some]
   ·simp[Tr.AZ]at h
  ·rename_i sz by' G q;rw[q];split at h
   ·rename_i s hs;rw[Q9 hs];split at h
    ·rename_i D;simp only[Tr.AZ,decide_eq_true_eq]at h;obtain⟨⟨C,J⟩,rfl⟩:=h;have A:n.toNat<s.size:=by omega
     simp only[D,C,if_true,ZBZ A,Option.map_some,AY]
    ·simp[Tr.AZ]at h
   ·simp[Tr.AZ]at h
  ·simp[Tr.AZ]at h
 ·simp[Tr.AZ]at h
theorem uP {t:Nat} {xs:List (U.Ty t)} {y:SV U.Ty} (h:(YP t xs).AZ y) :
  U.Au t=1/\∃q,bytesOf (xs.map (U.enc t))=some q/\q.length<=maxLen/\y = .ss ⟨q.toArray⟩:=by
 unfold YP at h;simp only[Em,Tr.AZ]at h;obtain⟨z,A,C⟩:=h;refine⟨z,?_⟩;unfold Jm at A;unfold strOf at C
 grind
theorem Zz7 {E:Env} {H:BF U} {F dst:TypeId} {x y:SV U.Ty} (h:(Z5j E H F dst x).AZ y):JH E (BN U H) F dst (AY U x)=some (AY U y,BN U H):=by
 unfold Z5j at h;simp only[Em]at h;obtain⟨hb,h⟩:=h;simp only[Bool.and_eq_true]at hb;split at h
 ·simp only[Tr.AZ]at h;subst h;simp[JH,AY,hb,Ew,elemsOf,bytesOf]
 ·obtain⟨A,G,z,q,rfl⟩:=uP h;simp[JH,AY,hb,Ew,elemsOf,A,z,q]
 ·obtain⟨A,G,z,q,rfl⟩:=uP h;simp[JH,AY,hb,Ew,elemsOf,A,z,q]
 ·obtain⟨t,xs,fl,A,z,q,C⟩:=IK h;obtain⟨I,G,J,M,rfl⟩:=uP q;subst z;rename_i id;have D:elemsOf (BN U H) (AY U (.all id xs.length))=some (xs.map (U.enc t)):=by
   simp only[AY,elemsOf,C];simp only[DF,Nat.zero_add,Nat.le_refl,decide_true,Bool.and_self,if_true,List.drop_zero,Option.some.injEq];exact List.take_of_length_le (by simp)
  simp only[AY]at D;simp only[JH,AY,hb,D,Ew,C,DF,I,Bool.and_self,beq_self_eq_true,if_true,J,if_pos M]
 ·obtain⟨t,xs,fl,A,z,q,C⟩:=IK h;simp only[Tr.AZ,decide_eq_true_eq]at q;obtain⟨N,q⟩:=q;obtain⟨I,G,J,M,rfl⟩:=uP q;rename_i id off len tot;have D:elemsOf (BN U H) (AY U (.Bi id off len tot))=some ((((xs.drop off).take len)).map (U.enc t)):=by
   simp only[AY,elemsOf,C];simp[DF,N,List.map_take,List.map_drop]
  simp only[AY]at D;simp only[JH,AY,hb,D,Ew,C,DF,I,Bool.and_self,beq_self_eq_true,if_true,J,if_pos M]
 ·simp[Tr.AZ]at h
theorem ZBY {E:Env} {H:BF U} {q dst:TypeId} {x y:SV U.Ty} (h:(Z5D E H q dst x).AZ y):JH E (BN U H) q dst (AY U x)=some (AY U y,BN U H):=by
 unfold Z5D at h;split at h
 ·rename_i k n A;rw[MB A];unfold JH;split at h
  ·rename_i j z;simp only[z];split at h
   ·rename_i hs;simp only[Tr.AZ]at h;subst h;simp[hs,AY]
   ·simp[Tr.AZ]at h
  ·simp[Tr.AZ]at h
 ·split at h
  ·rename_i s hs;rw[Q9 hs];unfold JH;split at h
   ·rename_i hb;simp only[Tr.AZ]at h;subst h;simp only[Bool.and_eq_true]at hb;simp[hb,AY]
   ·simp[Tr.AZ]at h
  ·exact Zz7 h
end
section
variable {U:DD}
theorem ZeR {H:BF U} {x:SV U.Ty} {e:Nat} {ys:List (U.Ty e)} (h:(yM H x e).AZ ys) :
  elemsOf (BN U H) (AY U x)=some (ys.map (U.enc e))/\(Ew (BN U H) (AY U x) (U.Au e)=true):=by
 have A:∀(t:Nat) (xs:List (U.Ty t)),(if h:t=e then Tr.leaf (h▸xs) else Tr.fail:Tr U (List (U.Ty e))).AZ ys->∃C:t=e,(C▸xs:List (U.Ty e))=ys:=by
  intro t xs h;split at h
  ·rename_i C;exact⟨C,h⟩
  ·simp[Tr.AZ]at h
 unfold yM at h;simp only at h;split at h
 ·simp only[Tr.AZ]at h;subst h;exact⟨rfl,rfl⟩
 ·obtain⟨rfl,rfl⟩:=A _ _ h;exact⟨rfl,by simp[AY,Ew]⟩
 ·obtain⟨rfl,rfl⟩:=A _ _ h;exact⟨rfl,by simp[AY,Ew]⟩
 ·obtain⟨t,xs,fl,G,F,q,z⟩:=IK h;obtain⟨rfl,rfl⟩:=A _ _ q;subst F;refine⟨?_,by simp[AY,Ew,z,DF]⟩;simp only[AY,elemsOf,z];simp only[DF,Nat.zero_add,Nat.le_refl,decide_true,Bool.and_self,if_true,List.drop_zero,Option.some.injEq];exact List.take_of_length_le (by simp)
 ·obtain⟨t,xs,fl,G,F,q,z⟩:=IK h;simp only[Tr.AZ,decide_eq_true_eq]at q;obtain⟨D,q⟩:=q;obtain⟨rfl,rfl⟩:=A _ _ q;refine⟨?_,by simp[AY,Ew,z,DF]⟩;simp only[AY,elemsOf,z];simp[DF,D,List.map_take,List.map_drop]
 ·simp[Tr.AZ]at h
theorem ZfH {L:Type} {kd:IntKind} {n:Int} {lit:Bool} {z:Tr U L} {f:SV U.Ty->Tr U L} {y:L}:∀{kvs:List (SV U.Ty)},(Qv kd n lit z f kvs).AZ y ->
  (OB kd n (Aw U kvs)=some none/\z.AZ y)\/∃v,OB kd n (Aw U kvs)=some (some (AY U v))/\(f v).AZ y
 | [],h=>.inl ⟨rfl,h⟩
 | [x],h=>by
  cases x with
  | lit v=>cases v<;>simp[Qv,Tr.AZ]at h
  | _=>simp[Qv,Tr.AZ]at h
 | x::v::r,h=>by
  have key:∀k a,x = .lit (.int k a)->(OB kd n (Aw U (x::v::r))=some none/\z.AZ y)\/∃u,OB kd n (Aw U (x::v::r))=some (some (AY U u))/\(f u).AZ y:=by
   intro k a hx;subst hx;simp only[Qv,Em]at h;obtain⟨rfl,h⟩:=h;simp only[Aw,AY,OB,if_true]
   by_cases q:n=a
   ·subst q;simp only[if_true];cases lit with
    | true=>
     grind
    | false=>
     simp only[Bool.false_eq_true,if_false,Tr.AZ,beq_self_eq_true,true_and]at h
     grind
   ·rw[if_neg q];refine ZfH (lit:=lit) (z:=z) (f:=f) (kvs:=r) ?_;cases lit with
    | true=>
     simp_all
    | false=>
     have hb:(n==a)=false:=by simpa using q
     simp only[Bool.false_eq_true,if_false,Tr.AZ,hb]at h
     simp_all
  cases x with
  | lit c=>
   cases c with
   | int k a=>exact key k a rfl
   | _=>simp[Qv,Tr.AZ]at h
  | _=>simp[Qv,Tr.AZ]at h
theorem ZBi {E:Env} {t:TypeId} {ok:Bool} {m x y:SV U.Ty} (h:(Z5y E t ok m x).AZ y):YO E t ok (AY U m) (AY U x)=some (AY U y):=by
 unfold Z5y at h;split at h
 ·rename_i k e sz by' G kvs kd n D hx;simp only[Em]at h;obtain⟨hk,h⟩:=h;rw[MB hx];simp only[AY,YO,D,hk,if_true];rcases ZfH h with ⟨A,q⟩|⟨v,A,q⟩
  ·rw[A];simp only;split at q
   ·rename_i F C;rw[C];simp only;split at q
    ·rename_i z hz;simp only[Tr.AZ]at q;subst q;rw[hz];cases ok<;>simp[AY,Aw,Xv]
    ·simp[Tr.AZ]at q
   ·simp[Tr.AZ]at q
  ·rw[A];simp only[Tr.AZ]at q;subst q;cases ok<;>simp[AY,Aw]
 ·simp[Tr.AZ]at h
theorem ZAK (v:SV U.Ty):AY U (Z5F v)=AY U v:=by cases v<;>rfl
theorem Zxv {E:Env} {k:Nat} {H H' : BF U} {t u:TypeId} {s x y:SV U.Ty} (h:(Z4V E k H t u s x).AZ (y,H')) :
  Nh E k (BN U H) t u (AY U s) (AY U x)=some (AY U y,BN U H'):=by
 unfold Z4V at h;unfold Nh;split at h
 ·rename_i e sz by' z0 O;rw[O];simp only;split at h
  ·rename_i ei M;simp only[Em,E8]at h;obtain⟨⟨rfl,G,hz,q⟩,ys,Q,h⟩:=h;obtain⟨e1,S⟩:=ZeR Q;rw[q]at S;simp only[M,beq_self_eq_true,e1];rw[if_pos (by simp[G,S,hz])];split at h
   ·rename_i id n;obtain⟨Y,xs,fl,h1,I,z,J⟩:=IK h;split at z
    ·rename_i F;subst F;simp only[Tr.AZ,Bool.and_eq_true,decide_eq_true_eq,Prod.mk.injEq]at z;obtain⟨⟨C,D⟩,rfl,rfl⟩:=z;subst I;simp only[AY,J,List.length_map];simp only[DF,q,beq_self_eq_true,decide_true,Bool.and_self,if_true,C,D,Option.some.injEq,Prod.mk.injEq];refine⟨by simp[AY],?_⟩;rw[Ql];simp[DF,q]
    ·simp[Tr.AZ]at z
   ·rename_i id off len tot;obtain⟨Y,xs,fl,h1,I,z,J⟩:=IK h;split at z
    ·rename_i F;subst F;simp only[Tr.AZ,Bool.and_eq_true,decide_eq_true_eq,Prod.mk.injEq]at z;obtain⟨⟨C,D,l3,l4⟩,rfl,rfl⟩:=z;subst I;subst C;have N:¬len=xs.length:=by omega
     simp only[AY,J];simp only[DF,q,beq_self_eq_true,decide_true,Bool.and_self,Bool.and_true,Bool.true_and,N,decide_false,Bool.and_false,Bool.false_and,Bool.false_eq_true,if_false,D,l3,l4,List.length_map,if_true,Option.some.injEq,Prod.mk.injEq,true_and];rw[Ql];simp[DF,q,List.map_take,List.map_drop]
    ·simp[Tr.AZ]at z
   ·simp only[Tr.AZ,Bool.and_eq_true,decide_eq_true_eq,Prod.mk.injEq]at h;obtain⟨⟨C,D⟩,rfl,rfl⟩:=h;simp only[AY,List.length_map,C,D,decide_true,Bool.and_self,if_true,Option.some.injEq,Prod.mk.injEq,true_and];rw[Sj];simp[DF,CB,q]
   ·rename_i Y xs;split at h
    ·rename_i F;subst F;simp only[Tr.AZ,Bool.and_eq_true,decide_eq_true_eq,Prod.mk.injEq]at h;obtain⟨⟨C,D⟩,h⟩:=h;simp only[AY,List.length_map,q,beq_self_eq_true,C,D,decide_true,Bool.and_self,if_true];rcases h with ⟨A,rfl,rfl⟩|⟨A,rfl,rfl⟩
     ·simp[A,AY,q]
     ·simp only[List.isEmpty_map,A,Bool.false_eq_true,if_false,Option.some.injEq,Prod.mk.injEq];refine⟨by simp[AY],?_⟩;rw[Sj];simp[DF,CB,q]
    ·simp[Tr.AZ]at h
   ·simp[Tr.AZ]at h
  ·simp[Tr.AZ]at h
 ·simp[Tr.AZ]at h
theorem ZzO {E:Env} (G:Du U E) {k:Nat} {H H' : BF U} {dst:TypeId} {x y:SV U.Ty} (h:(Z5n E k H dst x).AZ (y,H')):OC E k (BN U H) dst (AY U x)=some (AY U y,BN U H'):=by
 unfold Z5n at h;split at h
 ·rename_i st e sz by' M hs C;simp only[Em,Tr.AZ,Prod.mk.injEq]at h;obtain⟨⟨D,F⟩,A,rfl,rfl⟩:=h;have key:∀l:List UInt8,(l.all fun b=>(U.IE e (.si .u8 b.toNat)).isSome)=true->(l.filterMap fun b=>U.IE e (.si .u8 b.toNat)).map (U.enc e)=l.map fun c=>V.lit (.int .u8 c.toNat):=by
   intro l;induction l with
   | nil=>intro _;rfl
   | cons b l J=>
    intro hl;simp only[List.all_cons,Bool.and_eq_true]at hl;cases I:U.IE e (.si .u8 b.toNat) with
    | none=>simp_all
    | some a=>
     have:=G.dec _ _ _ I;simp only[AY,ES,Gt]at this
     simp_all
  have q:(Ko U e st).map (U.enc e)=bytesV st:=key _ A;have z:(Ko U e st).length=st.size:=by
   have:=congrArg List.length q;rw[List.length_map]at this;rw[this];simp only[bytesV,List.length_map];exact Array.length_toList
  rw[Q9 hs];simp only[OC,C,D,if_true,AY,z,Option.some.injEq,Prod.mk.injEq,true_and];rw[Sj];simp[DF,CB,F,q]
 ·simp[Tr.AZ]at h
theorem ZfK {x:SV U.Ty} {v:Value} (h:Yb x=some v):AY U x = .lit v:=by
 unfold Yb at h;split at h<;>simp_all [AY]
theorem ZB2 {E:Env} {L:Type} (D:Du U E) {t:Nat} {xs:List (U.Ty t)} {r:L}:∀{n i:Nat} {k:List Value->Tr U L},(zM xs i n k).AZ r->∃vs,((xs.drop i).take n).map (U.enc t)=vs.map V.lit/\vs.length=n/\(k vs).AZ r:=by
 intro n;induction n with
 | zero=>intro i k h;exact⟨[],by simp,rfl,h⟩
 | succ n G=>
  intro i k h;simp only[zM,Tr.AZ]at h;obtain⟨x,hx,h⟩:=h;split at h
  ·rename_i v hv;obtain⟨vs,z,A,C⟩:=G h;obtain⟨F,q⟩:=List.getElem?_eq_some_iff.1 hx;refine⟨v::vs,?_,by simp[A],C⟩;rw[List.drop_eq_getElem_cons F,List.take_succ_cons,List.map_cons,List.map_cons,z,q,<- D.encS,ZfK hv]
  ·simp[Tr.AZ]at h
theorem ZEB {E:Env} (M:Du U E) {t:TypeId} {x y:SV U.Ty} (h:(arrT E t x).AZ y):Yg E t (AY U x)=some (AY U y):=by
 unfold arrT at h;split at h
 ·rename_i n e sz by' Q N xs C;simp only[Em]at h;obtain⟨⟨G,I,J⟩,h⟩:=h;obtain⟨vs,A,O,F⟩:=ZB2 M h;simp only[Tr.AZ]at F;subst F;rw[List.drop_zero]at A;unfold Yg;have z:n<=xs.length:=by
   have:=congrArg List.length A;simp only[List.length_map,List.length_take]at this;omega
  have D:(xs.map (U.enc N)).take n=vs.map V.lit:=by rw[<- List.map_take,A]
  have q:(vs.map V.lit).all JU=true:=by simp[List.all_eq_true,JU]
  simp only[C,AY,G,I,J,D,List.length_map,z,q,and_self,if_true]
 ·simp[Tr.AZ]at h
theorem ZsU {q:Option (SV U.Ty)} {n m:Nat} (h:Z3N q n=some m):JF (q.map (AY U)) n n=some m:=by
 unfold Z3N at h;split at h
 ·simpa[JF]using h
 ·simpa[JF,JY,AY]using h
 ·cases h
theorem Zxp {E:Env} (hU:Du U E) {H H' : BF U} {n e:Nat} {x y:SV U.Ty} {N J O:Option (SV U.Ty)} (h:(Z4O E H n e x N J O).AZ (y,H')) :
  P8 E (BN U H) n e (AY U x) (N.map (AY U)) (J.map (AY U)) (O.map (AY U))=some (AY U y,BN U H'):=by
 unfold Z4O at h;split at h
 ·rename_i id i off tot m hm;split at h
  ·rename_i e' k cs hb;split at h
   ·rename_i ys G;simp only[Em,Tr.AZ,Prod.mk.injEq]at h;obtain⟨⟨⟨rfl,rfl,rfl,Q,S⟩,Y,c7,c8⟩,rfl,rfl⟩:=h;obtain⟨I,d2⟩:=Z48 hU G;have A:∀c∈cs,∃v,AY U c = .lit v:=fun c hc=>by
     have:=List.all_eq_true.1 c8 c hc;obtain⟨v,hv⟩:=Option.isSome_iff_exists.1 this;exact⟨v,ZfK hv⟩
    have F:(Aw U cs).map (ES (E.rows e))=Aw U cs:=by
     rw[FH,List.map_map];apply List.map_congr_left;intro c hc;obtain⟨v,hv⟩:=A c hc;simp only[Function.comp,hv,ES,Gt]
    rw[F]at I;have q:(Aw U cs).all JU=true:=by
     rw[FH,List.all_eq_true];intro y hy;obtain⟨c,hc,rfl⟩:=List.mem_map.1 hy;obtain⟨v,hv⟩:=A c hc;rw[hv];rfl
    have z:(Aw U cs).length=n:=by rw[FH,List.length_map,Q]
    have C:=Z3I hb;unfold P8;simp only[AY,Option.map_none,ZsU hm,C,CB];rw[if_pos ⟨trivial,trivial,z,S,Y,q⟩];simp only[Option.some.injEq,Prod.mk.injEq,c7,List.map_take,I,true_and];rw[Ql];simp only[bump];apply List.ext_getElem?;intro j;rw[List.getElem?_modify,List.getElem?_set]
    by_cases M:id=j
    ·subst M;have D:id<H.length:=(List.getElem?_eq_some_iff.1 hb).1;rw[Nc,hb];simp[DF,CB,AY,Us,D]
    ·simp[M]
   ·simp[Tr.AZ]at h
  ·simp[Tr.AZ]at h
 ·simp[Tr.AZ]at h
theorem ZB1 {E:Env} {H H' : BF U} {t u:TypeId} {d x y:SV U.Ty} (h:(Z5G E H t u d x).AZ (y,H')) :
  lJ E (BN U H) t u (AY U d) (AY U x)=some (AY U y,BN U H'):=by
 unfold Z5G at h;unfold lJ;split at h
 ·rename_i e sz by' Y D;rw[D];simp only;split at h
  ·rename_i O C;simp only[Em,E8]at h;obtain⟨q,ys,F,h⟩:=h;obtain⟨I,G⟩:=ZeR F;rw[q]at G;simp only[C,I];split at h
   ·rename_i id n;obtain⟨S,xs,fl,Q,J,A,M⟩:=IK h;split at A
    ·rename_i N;subst N;simp only[Em,Tr.AZ,Prod.mk.injEq]at A;obtain⟨z,rfl,rfl⟩:=A;subst J;simp only[AY,M];simp only[DF,q,z,beq_self_eq_true,decide_true,Bool.and_self,G,if_true,Option.some.injEq,Prod.mk.injEq,List.length_map];refine⟨by simp[AY],?_⟩;rw[Ql];simp[DF,q,z,List.map_take,List.map_drop]
    ·simp[Tr.AZ]at A
   ·simp[Tr.AZ]at h
  ·simp[Tr.AZ]at h
 ·simp[Tr.AZ]at h
theorem Zfu {L:Type} {H:BF U} {x:SV U.Ty} {k:Nat->Tr U L} {y:L} (h:(Ob H x k).AZ y):∃n,lenOf (BN U H) (AY U x)=some n/\(k n).AZ y:=by
 unfold Ob at h;split at h
 ·rename_i id n;obtain⟨t,xs,fl,C,D,q,z⟩:=IK h;exact⟨n,by simp[AY,lenOf,z],q⟩
 ·rename_i id off len tot;obtain⟨t,xs,fl,C,D,q,z⟩:=IK h;exact⟨len,by simp[AY,lenOf,z],q⟩
 ·split at h
  ·rename_i n A;refine⟨n,?_,h⟩;unfold lenT at A;split at A<;>simp_all [AY,lenOf]
  ·simp[Tr.AZ]at h
theorem Z4a {L:Type} {H:BF U} {x:SV U.Ty} {k:Nat->Tr U L} {y:L} (h:(Ob H x k).AZ y):∀v,x≠.raw v:=by
 rintro v rfl
 simp[Ob,lenT,Tr.AZ]at h
theorem ZhD {x:SV U.Ty} (hx:∀v,x≠.raw v) (h:VX x=false):∀s,AY U x≠.lit (.string s):=by
 intro s hs;unfold VX at h;cases x with
 | raw v=>exact hx v rfl
 | lit v=>simp only[AY,V.lit.injEq]at hs;subst hs;simp[KD]at h
 | ss b=>simp[KD]at h
 | _=>simp[AY]at hs
theorem ZgF {x:SV U.Ty} (h:VX x=true):∃s,KD x=some s/\AY U x = .lit (.string s):=by
 unfold VX at h;cases hs:KD x with
 | none=>simp[hs]at h
 | some s=>exact⟨s,rfl,Q9 hs⟩
theorem Zx5 {E:Env} {t:TypeId} {x:SV U.Ty} (hx:∀v,x≠.raw v):xE E t (AY U x)=Z4d E t x:=by
 unfold xE Z4d
 by_cases hs:VX x=true
 ·obtain⟨s,_,h⟩:=ZgF hs;rw[h,if_pos hs]
 ·rw[if_neg hs];have:=ZhD hx (by simpa using hs)
  grind
theorem ZAY {E:Env} {H:BF U} {x:SV U.Ty} {n:Nat} {L:Type} {k:Nat->Tr U L} {y:L} (hl:(Ob H x k).AZ y) (h:Z5d E H x n=true):Ew (BN U H) (AY U x) n=true:=by
 unfold Z5d at h;split at h
 ·simp[AY,Ew]
 ·simpa[AY,Ew]using h
 ·simpa[AY,Ew]using h
 ·rename_i id m;unfold Ob at hl;obtain⟨t,xs,fl,q,A,C,z⟩:=IK hl;simp only[q]at h;simpa[AY,Ew,z,DF]using h
 ·rename_i id off len tot;unfold Ob at hl;obtain⟨t,xs,fl,q,A,C,z⟩:=IK hl;simp only[q]at h;simpa[AY,Ew,z,DF]using h
 ·cases h
theorem ZsI {E:Env} {H:BF U} {t:TypeId} {x:SV U.Ty} {L:Type} {k:Nat->Tr U L} {y:L} (hl:(Ob H x k).AZ y) (h:Z3s E H t x=true):Qb E (BN U H) t (AY U x)=true:=by
 have hx:=Z4a hl;unfold Z3s at h;unfold Qb;split at h
 ·rename_i hs;obtain⟨s,_,A⟩:=ZgF hs;rw[A];exact h
 ·rename_i hs;have C:=ZhD hx (by simpa using hs);split
  ·simp_all
  ·split at h
   ·rename_i e _ _ _ z;split at h
    ·rename_i D q;simp only[z,q];exact ZAY hl h
    ·cases h
   ·cases h
theorem Z3O {L:Type} {x:Option (SV U.Ty)} {q d:Nat} {k:Nat->Tr U L} {y:L} (h:(kS x q d k).AZ y):∃n,JF (x.map (AY U)) q d=some n/\(k n).AZ y:=by
 unfold kS at h;split at h
 ·exact⟨d,rfl,h⟩
 ·rename_i v;split at h
  ·rename_i A n z;simp only[Tr.AZ,decide_eq_true_eq]at h;refine⟨n.toNat,?_,h.2⟩;simp[JF,MB z,JY,h.1]
  ·simp[Tr.AZ]at h
theorem Zzu {E:Env} {H H' : BF U} {t:TypeId} {x y:SV U.Ty} {Y z mx:Option (SV U.Ty)} (h:(sliceT E H t x Y z mx).AZ (y,H')) :
  Jz E (BN U H) t (AY U x) (Y.map (AY U)) (z.map (AY U)) (mx.map (AY U))=some (AY U y,BN U H'):=by
 unfold sliceT at h;unfold Jz;split at h
 ·rename_i q;have hl:=h;have S:=Z4a hl;rw[if_pos (ZsI hl q)];obtain⟨n,Q,O⟩:=Zfu hl;rw[Q];obtain⟨hh,A,hb⟩:=Z3O O;obtain⟨l,C,hc⟩:=Z3O hb;simp only[A,C];clear h O hb;revert hc;intro h;split at h
  ·rename_i m;split at h
   ·simp[Tr.AZ]at h
   ·rename_i xh;obtain⟨kk,M,hd⟩:=Z3O h;clear h;revert hd;intro h;simp only[Tr.AZ,beq_iff_eq]at h;obtain⟨rfl,h⟩:=h;simp only[Option.map_some,JF]at M;simp only[Option.map_some,M];split at h
    ·rename_i e xs;simp only[Tr.AZ,Prod.mk.injEq]at h;obtain⟨rfl,rfl⟩:=h;simp[AY,elemsOf,List.map_take,List.map_drop]
    ·rename_i e xs;simp only[Tr.AZ,Prod.mk.injEq]at h;obtain⟨rfl,rfl⟩:=h;simp[AY,elemsOf,List.map_take,List.map_drop]
    ·rename_i id n';obtain⟨e,xs,fl,D,N,F,G⟩:=IK h;simp only[Tr.AZ,Prod.mk.injEq]at F;obtain⟨rfl,rfl⟩:=F;subst N;have hg:(BN U H).getD id default=DF U (.row e xs fl):=by simp[List.getD,Nc,D]
     have I:elemsOf (BN U H) (.Bi id 0 xs.length xs.length)=some (xs.map (U.enc e)):=by
      simp only[elemsOf,G];simp only[DF,Nat.zero_add,Nat.le_refl,decide_true,Bool.and_self,if_true,List.drop_zero];rw[List.take_of_length_le (by simp)]
     simp only[AY,I,if_true,hg];simp only[DF,Option.some.injEq,Prod.mk.injEq];refine⟨by simp[List.map_take,List.map_drop],?_⟩;rw[Xt H [id] (by intro i z;simp at z;subst z;exact⟨_,_,_,D⟩)]
    ·simp[Tr.AZ]at h
  ·simp only[Option.map_none];split at h
   ·simp only[Tr.AZ,Prod.mk.injEq]at h;obtain⟨rfl,rfl⟩:=h;simp[AY]
   ·simp only[Tr.AZ,Prod.mk.injEq]at h;obtain⟨rfl,rfl⟩:=h;simp[AY,List.map_take,List.map_drop]
   ·simp only[Tr.AZ,Prod.mk.injEq]at h;obtain⟨rfl,rfl⟩:=h;simp[AY,List.map_take,List.map_drop]
   ·rename_i id n';have J:n=n' :=by
     unfold Ob at hl;obtain⟨e,xs,fl,D,N,F,G⟩:=IK hl;simpa[AY,lenOf,G]using Q.symm
    subst J;split at h
    ·simp only[Tr.AZ,Prod.mk.injEq]at h;obtain⟨rfl,rfl⟩:=h;simp only[Option.map_none,JF,Option.some.injEq]at A C;subst A;subst C;simp[AY]
    ·simp only[Tr.AZ,Prod.mk.injEq]at h;obtain⟨rfl,rfl⟩:=h;simp[AY]
   ·simp only[Tr.AZ,Prod.mk.injEq]at h;obtain⟨rfl,rfl⟩:=h;simp[AY]
   ·split at h
    ·rename_i s hs;simp only[Tr.AZ,Prod.mk.injEq]at h;obtain⟨rfl,rfl⟩:=h;simp[Q9 hs,AY]
    ·simp[Tr.AZ]at h
 ·simp[Tr.AZ]at h
def Og (U:DD) (M:Iy U) (call:EM):Prop:=
 ∀g as H v H',(M g as H).AZ (v,H')->call g (Aw U as) (BN U H)=some (AY U v,BN U H')
theorem Kq {H H' : BF U} {T:Tr U (SV U.Ty)} {y:SV U.Ty} (h:(Ju H T).AZ (y,H')):T.AZ y/\H' = H:=by
 simp only[Ju,E8,Tr.AZ,Prod.mk.injEq]at h
 grind
theorem ZBH {E:Env} {M:Iy U} {call:EM} (O:Du U E) (I:Og U M call) {k:Nat} {H H' : BF U} {s:List (SV U.Ty)} {c:Call} {o:Oper} {y:SV U.Ty} (G:o.op = .call c) (h:(Z5x E M k H s c).AZ (y,H')) :
  BO call E k (BN U H) (Aw U s) o=some (AY U y,BN U H'):=by
 unfold BO;rw[G];simp only;unfold Z5x at h;have q:evs E (Aw U s) c.args=Aw U (c.args.toList.map (DY E s)):=Zge E s c.args.toList;split at h
 ·rename_i b hb;rw[hb];simp only;rw[q];unfold Qd;split at h
  ·rename_i x t z A;rw[z,A];split at h
   ·rename_i hf;have D:=Z4a h;obtain⟨n,N,h⟩:=Zfu h;simp only[Tr.AZ,Prod.mk.injEq]at h;obtain⟨rfl,rfl⟩:=h;simp only[Aw,Zx5 D,hf,if_true,N,Option.map_some,AY];rfl
   ·simp[Tr.AZ]at h
  ·rename_i a x t u z A;rw[z,A];simp only[Aw];exact Zxv h
  ·rename_i a x t u z A;rw[z,A];simp only[Aw];exact ZB1 h
  ·obtain⟨F,rfl⟩:=Kq h;simp only[ZdH F,Option.map_some]
  ·obtain⟨F,rfl⟩:=Kq h;simp only[ZdH F,Option.map_some]
  ·simp[Tr.AZ]at h
 ·rename_i f hf;rw[hf];simp only;rw[GZ];split at h
  ·rename_i g first caps J
   rw[J];simp only[AY];have C:Aw U first++evs E (Aw U s) c.args++Aw U caps=Aw U (first++c.args.toList.map (DY E s)++caps):=by
    rw[q];simp only[FH,List.map_append]
   rw[C];exact I _ _ _ _ _ h
  ·simp[Tr.AZ]at h
 ·simp[Tr.AZ]at h
theorem ZeV {E:Env} {s:List (SV U.Ty)} (ps:List (Nat×Operand)):(ps.map fun(i,x)=>(i,ev E (Aw U s) x))=Nr (ps.map fun(i,x)=>(i,DY E s x)):=by
 simp[Nr,GZ]
theorem optEv {E:Env} {s:List (SV U.Ty)} (x:Option Operand):x.map (ev E (Aw U s))=(x.map (DY E s)).map (AY U):=by
 cases x<;>simp[GZ]
theorem ZGB {E:Env} {M:Iy U} {call:EM} (D:Du U E) (hM:Og U M call) {k:Nat} {H H' : BF U} {s:List (SV U.Ty)} {o:Oper} {y:SV U.Ty} (h:(mW E M k H s o).AZ (y,H')) :
  BO call E k (BN U H) (Aw U s) o=some (AY U y,BN U H'):=by
 unfold mW at h;split at h
 ·rename_i x q;simp only[Tr.AZ,Prod.mk.injEq]at h;obtain⟨rfl,rfl⟩:=h;unfold BO;rw[q];simp only[GZ]
 ·rename_i q;unfold BO;rw[q];simp only;split at h
  ·rename_i e _ _ _ C;simp only[Em,Tr.AZ,Prod.mk.injEq]at h;obtain⟨N,rfl,rfl⟩:=h;simp only[C,AY,Sj,DF,CB,N];rfl
  ·simp[Tr.AZ]at h
 ·rename_i x hne q;simp only[Tr.AZ,Prod.mk.injEq]at h;obtain⟨rfl,rfl⟩:=h;unfold BO;rw[q];split<;>simp_all [GZ]
 ·rename_i c a b q;unfold BO;rw[q];simp only[GZ];split at h
  ·rename_i hc;simp only[Tr.AZ,Prod.mk.injEq]at h;obtain⟨rfl,rfl⟩:=h;rw[hc];simp[AY]
  ·rename_i hc;simp only[Tr.AZ,Prod.mk.injEq]at h;obtain⟨rfl,rfl⟩:=h;rw[hc];simp[AY]
  ·rename_i t hc;rw[hc];simp only[AY];split at h
   ·rename_i x' y' hx I;simp only[Tr.AZ,Prod.mk.injEq]at h;obtain⟨rfl,rfl⟩:=h;rw[Uw hx,Uw I];cases t<;>simp[AY]
   ·simp only[Tr.AZ,Prod.mk.injEq]at h
    grind
  ·simp[Tr.AZ]at h
 ·rename_i t q;unfold BO;rw[q];simp only;split at h
  ·rename_i i G;simp only[G];split at h
   ·rename_i z hz;simp only[Em,Tr.AZ,Prod.mk.injEq]at h;obtain⟨hc,rfl,rfl⟩:=h;simp only[hz,hc,and_self,if_true,AY,Sj,DF,Xv]
   ·simp[Tr.AZ]at h
  ·simp[Tr.AZ]at h
 ·rename_i t x q;unfold BO;rw[q];simp only[GZ];split at h
  ·rename_i i G;simp only[Em,Tr.AZ,Prod.mk.injEq]at h;obtain⟨⟨A,F⟩,rfl,rfl⟩:=h;simp only[G,Ux F,Jh,A,Qe F,and_self,if_true,AY,Sj,DF]
  ·simp[Tr.AZ]at h
 ·rename_i t ps q;obtain⟨A,rfl⟩:=Kq h;rw[PS]at A;unfold BO;rw[q];simp only[ZeV,ZAB A,Option.map_some]
 ·rename_i t n ps q;unfold BO;rw[q];simp only[ZeV];exact Zpr D h
 ·rename_i t a q;obtain⟨A,rfl⟩:=Kq h;unfold BO;rw[q];simp only[GZ,ZfO D A,Option.map_some]
 ·rename_i t a v q;simp only[E8,Tr.AZ,Prod.mk.injEq]at h;obtain⟨H1,A,rfl,rfl⟩:=h;unfold BO;rw[q];simp only[GZ,ZAZ D A,Option.map_some];rfl
 ·rename_i x q;unfold BO;rw[q];simp only[GZ];split at h
  ·rename_i hx;simp only[Tr.AZ,Prod.mk.injEq]at h;obtain⟨rfl,rfl⟩:=h;simp[hx,AY,VN]
  ·rename_i hx;simp only[Tr.AZ,Prod.mk.injEq]at h;obtain⟨rfl,rfl⟩:=h;simp[hx,AY,VN]
  ·rename_i hx;simp only[Tr.AZ,Prod.mk.injEq]at h;obtain⟨rfl,rfl⟩:=h;simp[hx,AY,VN]
  ·rename_i hx;simp only[Tr.AZ,Prod.mk.injEq]at h;obtain⟨rfl,rfl⟩:=h;simp[hx,AY,VN]
  ·simp[Tr.AZ]at h
 ·rename_i op t x z _ q;obtain⟨A,rfl⟩:=Kq h;rw[E8]at A;obtain⟨v,A,F⟩:=A;have hv:∀(c:Bool) y,(Tr.leaf (if c=true then Z5F v else v):Tr U (SV U.Ty)).AZ y->AY U y=AY U v:=fun c y I=>by
   simp only[Tr.AZ]at I;subst I;split
   ·exact ZAK v
   ·rfl
  unfold BO;rw[q];simp only[GZ,ZCS A,Option.map_some,hv _ _ F]
 ·rename_i op _ x q;obtain⟨A,rfl⟩:=Kq h;unfold BO;rw[q];simp only[GZ,ZF2 A,Option.map_some]
 ·rename_i src dst x q;unfold BO;rw[q];simp only[GZ];split at h
  ·rename_i hb;rw[if_pos hb];exact ZzO D h
  ·rename_i hb;rw[if_neg hb];obtain⟨A,rfl⟩:=Kq h;simp only[ZBY A]
 ·rename_i t l c q;unfold BO;rw[q];simp only[GZ];split at h
  ·rename_i e _ _ _ C;simp only[C];split at h
   ·rename_i n _ m _ ei hn hm J;obtain⟨k1,Q⟩:=Zf8 hn;obtain⟨k2,O⟩:=Zf8 hm;simp only[Q,O,J];split at h
    ·rename_i z hz;simp only[hz];split at h
     ·rename_i y0 S;simp only[Em,Tr.AZ,decide_eq_true_eq,Prod.mk.injEq]at h;obtain⟨⟨c1,c2,c3,c4⟩,⟨c5,c6,c7,c8⟩,rfl,rfl⟩:=h;have Y:=D.dec _ _ _ S;rw[Xv]at Y;rw[if_pos ⟨c5,c6,c7,c8,c1,c2,c3⟩];simp only[AY,Sj,DF,CB,c4,Y,List.map_replicate,List.length_replicate];rfl
     ·simp[Tr.AZ]at h
    ·simp[Tr.AZ]at h
   ·simp[Tr.AZ]at h
  ·simp[Tr.AZ]at h
 ·rename_i t x lo G mx q;unfold BO;rw[q];simp only[GZ,optEv];split at h
  ·rename_i n e sz by' z0 C;rw[C];exact Zxp D h
  ·rename_i hna;split
   ·grind
   ·exact Zzu h
 ·rename_i t x q;obtain⟨A,rfl⟩:=Kq h;unfold BO;rw[q];simp only[GZ,ZEB D A,Option.map_some]
 ·rename_i t x f q;obtain⟨A,rfl⟩:=Kq h;rw[PS]at A;unfold BO;rw[q];simp only[GZ,ZpL A,Option.map_some]
 ·rename_i t x f q;obtain⟨A,rfl⟩:=Kq h;rw[PS]at A;unfold BO;rw[q];simp only[GZ,ZzI A,Option.map_some]
 ·rename_i t x i q;obtain⟨A,rfl⟩:=Kq h;unfold BO;rw[q];simp only[GZ,ZqS A,Option.map_some]
 ·rename_i t x i q;obtain⟨A,rfl⟩:=Kq h;unfold BO;rw[q];simp only[GZ,ZzU A,Option.map_some]
 ·rename_i x i q;unfold BO;rw[q];simp only[GZ];split at h
  ·rename_i vs hv;obtain⟨A,rfl⟩:=Kq h;rw[PS]at A;simp[hv,AY,FH,A]
  ·simp[Tr.AZ]at h
 ·rename_i t m x ok q;obtain⟨A,rfl⟩:=Kq h;unfold BO;rw[q];simp only[GZ,ZBi A,Option.map_some]
 ·rename_i f first caps q
  simp only[Tr.AZ,Prod.mk.injEq]at h;obtain⟨rfl,rfl⟩:=h;unfold BO;rw[q];simp only[AY,evs,Zge]
 ·rename_i c q;exact ZBH D hM q h
 ·simp[Tr.AZ]at h
theorem Z4e {E:Env} {M:Iy U} {call:EM} (Y:Du U E) (S:Og U M call) {ops:Array Oper} {k i:Nat} {st st' : Dw U} (h:(stepT E M ops k i st).AZ st') :
  Ku call E ops k i (DI U st)=some (DI U st'):=by
 unfold stepT at h;unfold Ku;split at h
 ·rename_i O;simp only[Tr.AZ]at h;subst h;rw[O]
 ·rename_i o O;rw[O];simp only at h ⊢;have run:∀(q:Dw U),((mW E M k q.H q.s o).andThen fun r=>Tr.leaf (⟨Tq q.s o.dst r.1,r.2⟩:Dw U)).AZ st' -> ∃v H1,BO call E k (BN U q.H) (Aw U q.s) o=some (v,H1)/\(⟨setSlot (Aw U q.s) o.dst v,H1⟩:St)=DI U st' :=by
   intro q F;simp only[E8,Tr.AZ]at F;obtain⟨⟨v,H1⟩,G,rfl⟩:=F;exact⟨_,_,ZGB Y S G,by simp only[DI,Zgc]⟩
  have skip:∀(q:Dw U),(Tr.leaf (⟨Tq q.s o.dst .no,q.H⟩:Dw U):Tr U (Dw U)).AZ st' -> (⟨setSlot (Aw U q.s) o.dst EZ,BN U q.H⟩:St)=DI U st' :=by
   intro q F;simp only[Tr.AZ]at F;subst F;simp only[DI,Zgc];rfl
  unfold GM;cases Q:o.guard with
  | none=>
   simp only[Q]at h;obtain⟨v,H1,G,J⟩:=run st h;simp only[DI,G];rw[J];rfl
  | some jw=>
   obtain⟨j,z⟩:=jw;simp only[Q]at h;split at h
   ·simp[Tr.AZ]at h
   ·rename_i d hd;simp only[hd];rw[show (DI U st).s.getD d .und=AY U (st.s.getD d .und) from Xg st.s d];have C:∀(b:Bool) (q:Dw U),DI U q=DI U st->AY U (st.s.getD d .und) = .lit (.bool b) ->
      (if b==z then ((mW E M k q.H q.s o).andThen fun r=>Tr.leaf (⟨Tq q.s o.dst r.1,r.2⟩:Dw U)) else (Tr.leaf (⟨Tq q.s o.dst .no,q.H⟩:Dw U):Tr U (Dw U))).AZ st' ->
      (match (match Pg (AY U (st.s.getD d .und)) z with
       | none=>none
       | some false=>some (EZ,(DI U st).H)
       | some true=>BO call E k (DI U st).H (DI U st).s o) with
      | some (v,H)=>some (⟨setSlot (DI U st).s o.dst v,H⟩:St)
      | none=>none)=some (DI U st'):=by
     intro b q F hv hr;rw[hv,<- F];simp only[Pg];split at hr
     ·rename_i hb;obtain⟨v,H1,G,J⟩:=run q hr;rw[hb];simp only[DI,G];exact congrArg some J
     ·rename_i hb;have:=skip q hr;rw[show (b==z)=false by simpa using hb];simp only[DI];exact congrArg some this
    split at h
    ·rename_i hs;rw[hs];have:=skip st h;simp only[AY,Pg,DI];exact congrArg some this
    ·rename_i hs;refine C true st rfl (by rw[hs];rfl) ?_;cases z<;>exact h
    ·rename_i hs;refine C false st rfl (by rw[hs];rfl) ?_;cases z<;>exact h
    ·rename_i b hs;have A:∀I,b=I -> DI U (⟨st.s.set d (.lit (.bool I)),st.H⟩:Dw U)=DI U st:=by
      rintro I rfl
      simp only[DI,St.mk.injEq,and_true];rw[FH,FH,List.map_set];apply List.ext_getElem?;intro n;rw[List.getElem?_set];split
      ·rename_i N;subst N;split
       ·rename_i D;simp only[List.length_map]at D;have:st.s.getD d .und=st.s[d]:=by simp[List.getD,D]
        rw[this]at hs;simp[D,hs,AY]
       simp_all
      ·rfl
     simp only[Tr.AZ]at h;rcases h with ⟨rfl,h⟩|⟨rfl,h⟩
     ·refine C true _ (A true rfl) (by rw[hs];rfl) ?_;cases z<;>exact h
     ·refine C false _ (A false rfl) (by rw[hs];rfl) ?_;cases z<;>exact h
    ·simp[Tr.AZ]at h
theorem ZDv {E:Env} {M:Iy U} {call:EM} (D:Du U E) (C:Og U M call) {ops:Array Oper}:∀{q:List Nat} {st st' : Dw U},(opsT E M ops q st).AZ st' -> OJ call E ops q (DI U st)=some (DI U st'):=by
 intro q;induction q with
 | nil=>intro st st' h;simp only[opsT,Tr.AZ]at h;subst h;rfl
 | cons i q F=>
  intro st st' h;simp only[opsT,E8]at h;obtain⟨G,z,A⟩:=h;have:=Z4e D C z;simp only[OJ,stepD];rw[show (DI U st).H.length=st.H.length from Us st.H,this];exact F A
theorem Zes {E:Env} {s:List (SV U.Ty)} {o:Oper}:EX E (Aw U s) o=kT E s o:=by
 unfold EX kT;congr 1;funext x;rw[GZ,ZzX]
theorem ZwH {H:BF U} {a:SV U.Ty} {k:Nat} (h:Z4A H a k=true):Ph (BN U H) (AY U a) k=true:=by
 unfold Z4A at h;split at h
 ·rename_i id i off tot;simp only[Bool.and_eq_true,beq_iff_eq]at h;obtain⟨z,q⟩:=h;split at q
  ·rename_i e n x hb;simp only[beq_iff_eq]at q;simp only[AY,Ph,z,beq_self_eq_true,Bool.true_and,Dn,Nc];rw[<- z,hb];simp[DF,CB,q]
  ·cases q
 ·rename_i id n;simp only[Bool.and_eq_true,beq_iff_eq]at h;obtain⟨z,q⟩:=h;split at q
  ·rename_i t xs fl hb;simp only[AY,Ph,z,beq_self_eq_true,Bool.true_and,Nc];rw[<- z,hb];simp[DF]
  ·cases q
 ·cases h
theorem ZyC {base k:Nat} {s0:List (SV U.Ty)} {t:Nat⊕Nat} (h:yY base s0 t=some k):TW base (Aw U s0) t=some k:=by
 cases t with
 | inl j=>exact h
 | inr d=>
  unfold yY at h;unfold TW;have:(Aw U s0).getD d .und=AY U (s0.getD d .und):=by
   rw[FH];simp only[List.getD,List.getElem?_map];cases s0[d]?<;>rfl
  simp only at h ⊢;rw[this];split at h
  ·rename_i q;rw[q];exact h
  ·rename_i q;rw[q];exact h
  ·cases h
theorem ZCy {E:Env} {ms:List Nat} {lt:List (Nat×(Nat⊕Nat))} {s0:List (SV U.Ty)} {base i:Nat} {s:List (SV U.Ty)} {H:BF U} {o:Oper} (h:Z5v E ms lt s0 base i s H o=true):Gy E ms lt (Aw U s0) base i (Aw U s) (BN U H) o=true:=by
 unfold Z5v at h;unfold Gy;rw[List.all_eq_true]at h ⊢;intro p hp;have h:=h p hp;cases q:yY base s0 p.2 with
 | none=>rw[q]at h;cases h
 | some k=>
  rw[q]at h;simp only at h;rw[ZyC q];simp only;have:addrOf E (Aw U s) o=AY U (Z4K E s o):=by
   unfold addrOf Z4K;cases Qc o<;>first|exact GZ ..|rfl
  rw[this,Zes];split
  ·rename_i z;rw[if_pos z]at h;exact ZwH h
  simp_all
theorem ZCa (v:SV U.Ty):zB (AY U v)=Zi1 v:=by cases v<;>rfl
theorem ZAp {E:Env} {s:List (SV U.Ty)} {o:Oper} (h:Z5f E s o=true):quietAt E (Aw U s) o=true:=by
 unfold Z5f at h;unfold quietAt;cases z:o.op with
 | call c=>
  simp only[z]at h;simp only;cases q:c.callee with
  | value f=>
   cases f with
   | tmp t=>
    simp only[q]at h;simp only;rw[Xg];cases A:(E.quiet&&o.type != 0) with
    | false=>rfl
    | true=>
     simp only[A,Bool.not_true,Bool.false_or]at h ⊢;cases hv:s.getD t .und with
     | fn g a b=>
      rw[hv]at h;simp only[Z5m,Bool.and_eq_true]at h;simp only[AY,yC,Bool.and_eq_true];refine⟨h.1,?_⟩;rw[FH,FH,<- List.map_append,List.all_map];rw[List.all_eq_true]at h ⊢;intro x hx;simp only[Function.comp,ZCa];exact h.2 x hx
     | _=>rw[hv]at h;simp[Z5m]at h
   | _=>rfl
  | _=>rfl
 | _=>rfl
theorem ZAI {E:Env} {M:Iy U} {call:EM} (F:Du U E) (D:Og U M call) {ops:Array Oper} {ms:List Nat} {lt:List (Nat×(Nat⊕Nat))} {s0:List (SV U.Ty)} {base m i:Nat} {st st' : Dw U} (h:(Z55 E M ops ms lt s0 base m i st).AZ st') :
  Ip call E ops ms lt (Aw U s0) base m i (DI U st)=some (DI U st'):=by
 unfold Z55 at h;unfold Ip;split at h
 ·rename_i C;simp only[Tr.AZ]at h;subst h;rw[C]
 ·rename_i o C;rw[C];simp only[Em]at h ⊢;obtain⟨I,q,h⟩:=h;rw[Bool.and_eq_true,Bool.and_eq_true]at q;obtain⟨⟨G,z⟩,A⟩:=q;have q :=And.intro z A;rw[show quietAt E (DI U st).s o=true from ZAp G,Bool.and_true];rw[show EX E (DI U st).s o=kT E st.s o from Zes,show (DI U st).H.length=st.H.length from Us st.H,if_pos (by rw[I,Bool.true_and,Bool.and_eq_true];exact⟨ZCy q.1,q.2⟩)];split at h
  ·rename_i hc;rw[if_pos hc];rw[show (DI U st).H[base+i]? = (st.H[base+i]?).map (DF U) from Nc _ _];split at h
   ·rename_i b hb;rw[hb];split at h
    ·rename_i J;have:b = .dead:=by cases b<;>simp_all [Zhb]
     subst this;simp only[Option.map_some,DF,Sv,Bool.false_eq_true,if_false];exact Z4e F D h
    ·simp[Tr.AZ]at h
   ·simp[Tr.AZ]at h
  ·rename_i hc;rw[if_neg hc];exact Z4e F D h
theorem Zxz {E:Env} {M:Iy U} {call:EM} (D:Du U E) (C:Og U M call) {ops:Array Oper} {ms:List Nat} {lt:List (Nat×(Nat⊕Nat))} {s0:List (SV U.Ty)} {base m:Nat}:∀{q:List Nat} {st st' : Dw U},(jZ E M ops ms lt s0 base m q st).AZ st' ->
  Np call E ops ms lt (Aw U s0) base m q (DI U st)=some (DI U st'):=by
 intro q;induction q with
 | nil=>intro st st' h;simp only[jZ,Tr.AZ]at h;subst h;rfl
 | cons i q F=>
  intro st st' h;simp only[jZ,E8]at h;obtain⟨G,z,A⟩:=h;simp only[Np,ZAI D C z];exact F A
theorem ZCb {E:Env} {M:Iy U} {call:EM} (z:Du U E) (q:Og U M call) {ops:Array Oper} {st st' : Dw U} (h:(zA E M ops st).AZ st'):V6 call E ops (DI U st)=some (DI U st'):=by
 unfold zA at h;unfold V6;have:=Zxz z q h;rw[show (DI U st).H.length=st.H.length from Us st.H];rw[<- this];congr 1;simp[DI,BN,DF]
end
section
variable {U:DD}
mutual
def Hw:SV U.Ty->List Nat
 | .all id _=>[id]
 | .Bi id _ _ _=>[id]
 | .ptr id _ _ _=>[id]
 | .agg cs=>Qh cs
 | .BH cs=>Qh cs
 | .Om cs=>Qh cs
 | .fn _ a b=>Qh a++Qh b
 | .raw v=>Eb v
 | _=>[]
def Qh:List (SV U.Ty)->List Nat
 | []=>[]
 | x::xs=>Hw x++Qh xs
end
mutual
def GL (q:Nat->Nat):SV U.Ty->SV U.Ty
 | .all id n=>.all (q id) n
 | .Bi id off len tot=>.Bi (q id) off len tot
 | .ptr id i off tot=>.ptr (q id) i off tot
 | .agg cs=>.agg (Oa q cs)
 | .BH cs=>.BH (Oa q cs)
 | .Om cs=>.Om (Oa q cs)
 | .fn f a b=>.fn f (Oa q a) (Oa q b)
 | .raw v=>.raw (Fz q v)
 | v=>v
def Oa (q:Nat->Nat):List (SV U.Ty)->List (SV U.Ty)
 | []=>[]
 | x::xs=>GL q x::Oa q xs
end
mutual
theorem Zfq:∀x:SV U.Ty,Eb (AY U x)=Hw x
 | .all _ _=>by simp only[AY,Eb,Hw]
 | .Bi _ _ _ _=>by simp only[AY,Eb,Hw]
 | .ptr _ _ _ _=>by simp only[AY,Eb,Hw]
 | .agg cs=>by simp only[AY,Eb,Hw];exact Uu cs
 | .BH cs=>by simp only[AY,Eb,Hw];exact Uu cs
 | .Om cs=>by simp only[AY,Eb,Hw];exact Uu cs
 | .fn _ a b=>by simp only[AY,Eb,Hw];rw[Uu a,Uu b]
 | .raw v=>by simp only[AY,Hw]
 | .lit _=>by simp only[AY,Eb,Hw]
 | .si _ _=>by simp only[AY,Eb,Hw]
 | .sb _=>by simp only[AY,Eb,Hw]
 | .ss _=>by simp only[AY,Eb,Hw]
 | .nil _=>by simp only[AY,Eb,Hw]
 | .sl _ _=>by simp only[AY,Eb,Hw]
 | .DU _ _=>by simp only[AY,Eb,Hw]
 | .CQ _ _ _ _=>by simp only[AY,Eb,Hw]
 | .Vo _ _ _=>by simp only[AY,Eb,Hw]
 | .no=>by simp only[AY,Eb,Hw]
 | .und=>by simp only[AY,Eb,Hw]
theorem Uu:∀xs:List (SV U.Ty),Dv (Aw U xs)=Qh xs
 | []=>rfl
 | x::xs=>by simp only[Aw,Dv,Qh];rw[Zfq x,Uu xs]
end
mutual
theorem wR (q:Nat->Nat):∀x:SV U.Ty,AY U (GL q x)=Fz q (AY U x)
 | .all _ _=>by simp only[AY,Fz,GL]
 | .Bi _ _ _ _=>by simp only[AY,Fz,GL]
 | .ptr _ _ _ _=>by simp only[AY,Fz,GL]
 | .agg cs=>by simp only[AY,Fz,GL];rw[Q5 q cs]
 | .BH cs=>by simp only[AY,Fz,GL];rw[Q5 q cs]
 | .Om cs=>by simp only[AY,Fz,GL];rw[Q5 q cs]
 | .fn _ a b=>by simp only[AY,Fz,GL];rw[Q5 q a,Q5 q b]
 | .raw v=>by simp only[AY,GL]
 | .lit _=>by simp only[AY,Fz,GL]
 | .si _ _=>by simp only[AY,Fz,GL]
 | .sb _=>by simp only[AY,Fz,GL]
 | .ss _=>by simp only[AY,Fz,GL]
 | .nil _=>by simp only[AY,Fz,GL]
 | .sl _ _=>by simp only[AY,Fz,GL]
 | .DU _ _=>by simp only[AY,Fz,GL]
 | .CQ _ _ _ _=>by simp only[AY,Fz,GL]
 | .Vo _ _ _=>by simp only[AY,Fz,GL]
 | .no=>by simp only[AY,Fz,GL]
 | .und=>by simp only[AY,Fz,GL]
theorem Q5 (q:Nat->Nat):∀xs:List (SV U.Ty),Aw U (Oa q xs)=Ho q (Aw U xs)
 | []=>rfl
 | x::xs=>by simp only[Aw,Ho,Oa];rw[wR q x,Q5 q xs]
end
def retS (e sz:Nat) (H:BF U):SV U.Ty->Tr U (SV U.Ty×BF U)
 | .nil _=>.when (U.Au e=sz) (.leaf (.sl e [],H))
 | y=>.leaf (y,H)
def VV:Fk->BF U->SV U.Ty->Tr U (SV U.Ty×BF U)
 | .s e sz,H,x=>(Oh H x).andThen fun y=>retS e sz (Qy H (Pq x)) y
 | .own e sz,H,x=>(match x with
  | .nil _=>.when (U.Au e=sz) (.leaf (.all H.length 0,H++[.row e [] none]))
  | .all id n=>.leaf (.all id n,H)
  | _=>.fail)
 | .keep,H,x=>.leaf (x,H)
 | .drop,H,_=>.leaf (.und,H)
def VZ:List Fk->BF U->List (SV U.Ty)->Tr U (List (SV U.Ty)×BF U)
 | [],H,[]=>.leaf ([],H)
 | f::fs,H,x::xs=>(VV f H x).andThen fun r=>(VZ fs r.2 xs).andThen fun q=>.leaf (r.1::q.1,q.2)
 | _,_,_=>.fail
def yV (fl:List Fk) (H:BF U) (x:SV U.Ty):Tr U (SV U.Ty×BF U):=
 match x with
 | .agg cs=>(VZ fl H cs).andThen fun r=>.leaf (.agg r.1,r.2)
 | .raw _=>.fail
 | x=>match fl with
  | [f]=>VV f H x
  | _=>.fail
def VY:List (List Fk)->BF U->List (SV U.Ty)->Tr U (List (SV U.Ty)×BF U)
 | [],H,[]=>.leaf ([],H)
 | f::fs,H,x::xs=>(yV f H x).andThen fun r=>(VY fs r.2 xs).andThen fun q=>.leaf (r.1::q.1,q.2)
 | _,_,_=>.fail
def Qp:Nat->List Bf->BF U->List Nat->List Nat->Tr U (BF U×List Nat)
 | 0,_,_,_,_=>.fail
 | _+1,_,H,[],seen=>.leaf (H,seen)
 | n+1,fb,H,id::q,seen=>
  if seen.contains id then Qp n fb H q seen else
  match H[id]?,fb with
  | some (.row _ _ none),.row true::z =>Qp n z H q (seen++[id])
  | some (.row _ _ _),.row false::z =>Qp n z (Qy H [id]) q (seen++[id])
  | some (.var _ _ x),.var fl::z =>(yV fl H x).andThen fun r=>(match r.2[id]? with
    | some (.var e m _)=>.when (okS r.1=true) (Qp n z (r.2.set id (.var e m r.1)) (q++Hw r.1) (seen++[id]))
    | _=>.fail)
  | _,_=>.fail
def xO (q:Nat->Nat):OH U.Ty->OH U.Ty
 | .var e n x=>.var e n (GL q x)
 | .fvar e n x=>.fvar e n (GL q x)
 | b=>b
def YM (H:BF U) (ids:List Nat):BF U:=ids.map fun id=>xO (ids.idxOf ·) ((H[id]?).getD .dead)
def YX (fa:List (List Fk)) (fb:List Bf) (k:Nat) (args:List (SV U.Ty)) (H:BF U):Tr U (List Nat×List (SV U.Ty)×BF U):=
 (VY fa H args).andThen fun r=>(Qp 1000 fb r.2 (List.range k++Qh r.1) []).andThen fun q=>.leaf (q.2,r.1,q.1)
def lN:BF U->List Nat->BF U->BF U
 | H,[],q=>H++q
 | H,id::ids,b::q=>lN (H.set id b) ids q
 | H,_::_,[]=>H
def jK (H:BF U) (ids:List Nat) (q:BF U):BF U:=lN H ids (q.map (xO (KC ids H.length)))
theorem ZCN {e sz:Nat} {H:BF U} {y:SV U.Ty} {r:SV U.Ty×BF U} (h:(retS e sz H y).AZ r) (z:∀v,y≠.raw v):AY U r.1=Gt sz (AY U y)/\r.2=H:=by
 unfold retS at h;split at h
 ·simp only[Em,Tr.AZ]at h;obtain⟨q,rfl⟩:=h;simp[AY,Gt,q]
 ·simp only[Tr.AZ]at h;subst h;refine⟨?_,rfl⟩;cases y with
  | nil A =>simp_all
  | raw v=>exact absurd rfl (z v)
  | _=>simp[AY,Gt]
theorem ZzN {H:BF U} {x y:SV U.Ty} (h:(Oh H x).AZ y):∀v,y≠.raw v:=by
 intro v hv;subst hv;unfold Oh at h;split at h<;>(try (simp[Tr.AZ]at h;done))
 ·obtain⟨t,xs,fl,z,A,q,C⟩:=IK h;simp[Tr.AZ]at q
 ·obtain⟨t,xs,fl,z,A,q,C⟩:=IK h;simp[Tr.AZ]at q
theorem ZeL {f:Fk} {H:BF U} {x:SV U.Ty} {r:SV U.Ty×BF U} (h:(VV f H x).AZ r):I9 f (BN U H) (AY U x)=some (AY U r.1,BN U r.2):=by
 cases f with
 | s e sz=>
  simp only[VV,E8]at h;obtain⟨y,q,C⟩:=h;obtain⟨z,A⟩:=ZCN C (ZzN q);simp only[I9,Z4v q,Option.map_some,z,A];rw[Zg2,Xt H _ (Z3k q)]
 | own e sz=>
  simp only[VV]at h;split at h
  ·simp only[Em,Tr.AZ]at h;obtain⟨D,rfl⟩:=h;simp[I9,lF,AY,BN,DF,CB,D]
  ·simp only[Tr.AZ]at h;subst h;simp[I9,lF,AY]
  ·simp[Tr.AZ]at h
 | keep=>
  simp only[VV,Tr.AZ]at h;subst h;rfl
 | drop=>
  simp only[VV,Tr.AZ]at h;subst h;rfl
theorem ZAQ:∀{fl:List Fk} {H:BF U} {xs:List (SV U.Ty)} {r:List (SV U.Ty)×BF U},(VZ fl H xs).AZ r->I8 fl (BN U H) (Aw U xs)=some (Aw U r.1,BN U r.2):=by
 intro fl;induction fl with
 | nil=>
  intro H xs r h;cases xs with
  | nil=>simp only[VZ,Tr.AZ]at h;subst h;rfl
  | cons=>simp[VZ,Tr.AZ]at h
 | cons f fl C=>
  intro H xs r h;cases xs with
  | nil=>simp[VZ,Tr.AZ]at h
  | cons x xs=>
   simp only[VZ,E8,Tr.AZ]at h;obtain⟨p,z,q,A,rfl⟩:=h;simp only[Aw,I8,ZeL z,C A]
theorem Zew {fl:List Fk} {H:BF U} {x:SV U.Ty} {r:SV U.Ty×BF U} (h:(yV fl H x).AZ r):Kw fl (BN U H) (AY U x)=some (AY U r.1,BN U r.2):=by
 unfold yV at h;split at h
 ·rename_i cs;simp only[E8,Tr.AZ]at h;obtain⟨p,q,rfl⟩:=h;simp only[AY,Kw,ZAQ q,Option.map_some]
 ·simp[Tr.AZ]at h
 ·rename_i A C;split at h
  ·rename_i f;have q:=ZeL h;unfold Kw;split
   ·rename_i cs z;exfalso;cases x<;>simp_all [AY]
   ·exact q
  ·simp[Tr.AZ]at h
theorem ZzR:∀{fl:List (List Fk)} {H:BF U} {xs:List (SV U.Ty)} {r:List (SV U.Ty)×BF U},(VY fl H xs).AZ r->Io fl (BN U H) (Aw U xs)=some (Aw U r.1,BN U r.2):=by
 intro fl;induction fl with
 | nil=>
  intro H xs r h;cases xs with
  | nil=>simp only[VY,Tr.AZ]at h;subst h;rfl
  | cons=>simp[VY,Tr.AZ]at h
 | cons f fl C=>
  intro H xs r h;cases xs with
  | nil=>simp[VY,Tr.AZ]at h
  | cons x xs=>
   simp only[VY,E8,Tr.AZ]at h;obtain⟨p,z,q,A,rfl⟩:=h;simp only[Aw,Io,Zew z,C A]
theorem ZyX:∀{n:Nat} {fb:List Bf} {H:BF U} {q seen:List Nat} {r:BF U×List Nat},(Qp n fb H q seen).AZ r->LC n fb (BN U H) q seen=some (BN U r.1,r.2):=by
 intro n;induction n with
 | zero=>intro fb H q seen r h;simp[Qp,Tr.AZ]at h
 | succ n G=>
  intro fb H q seen r h;cases q with
  | nil=>simp only[Qp,Tr.AZ]at h;subst h;rfl
  | cons id q=>
   unfold Qp at h;unfold LC
   by_cases D:seen.contains id=true
   ·grind
   ·rw[if_neg D]at h ⊢;rw[Nc];split at h
    ·rename_i t xs A hb;rw[hb];simp only[Option.map_some,DF,Bool.and_self,if_true];exact G h
    ·rename_i t xs fl A hb;rw[hb];simp only[Option.map_some,DF,Bool.and_self,if_true,Bool.false_eq_true,if_false];rw[<- Xt H [id] (fun i I=>by simp at I;subst I;exact⟨t,xs,fl,hb⟩)];exact G h
    ·rename_i e m x fl A hb;rw[hb];simp only[E8]at h;obtain⟨p,J,z⟩:=h;simp only[Option.map_some,DF,CB,Bool.not_false,Bool.and_self,if_true,Zew J,Nc];split at z
     ·rename_i M N O C;simp only[Em]at z;obtain⟨F,z⟩:=z;rw[C];simp only[Option.map_some,DF,CB,Qe F,if_true];have:=G z;rw[Ql]at this;simp only[DF,CB]at this;rw[Zfq];exact this
     ·simp[Tr.AZ]at z
    ·simp[Tr.AZ]at h
theorem wU {fa:List (List Fk)} {fb:List Bf} {k:Nat} {args:List (SV U.Ty)} {H:BF U} {r:List Nat×List (SV U.Ty)×BF U} (h:(YX fa fb k args H).AZ r):pack fa fb k (Aw U args) (BN U H)=some (r.1,Aw U r.2.1,BN U r.2.2):=by
 simp only[YX,E8,Tr.AZ]at h;obtain⟨p,z,q,A,rfl⟩:=h;simp only[pack,ZzR z,Uu,ZyX A]
theorem ZaP (q:Nat->Nat) (b:OH U.Ty):DF U (xO q b)=Gi q (DF U b):=by
 cases b<;>simp[xO,DF,Gi,CB,Sv,Ho,wR]
theorem vZ (H:BF U) (ids:List Nat):BN U (YM H ids)=J9 (BN U H) ids:=by
 simp only[BN,YM,J9,List.map_map];apply List.map_congr_left;intro id _;simp only[Function.comp,ZaP];congr 1;rw[List.getElem?_map];cases H[id]?<;>rfl
theorem ZAT:∀(H:BF U) (ids:List Nat) (q:BF U),BN U (lN H ids q)=Qz (BN U H) ids (BN U q):=by
 intro H ids;induction ids generalizing H with
 | nil=>intro q;simp[lN,Qz,BN]
 | cons id ids z=>
  intro q;cases q with
  | nil=>rfl
  | cons b q=>
   simp only[lN,z,Ql];rfl
theorem Zs5 (H:BF U) (ids:List Nat) (q:BF U):BN U (jK H ids q)=PY (BN U H) ids (BN U q):=by
 simp only[jK,PY,ZAT];congr 1;simp only[BN,List.map_map];apply List.map_congr_left;intro b _;simp[Function.comp,ZaP]
def YG:List (SV U.Ty)->List FuncId
 | []=>[]
 | .fn f _ _::vs=>f::YG vs
 | .raw v::vs=>Nw [v]++YG vs
 | _::vs=>YG vs
theorem ZxC (v:V) (vs:List V):Nw (v::vs)=Nw [v]++Nw vs:=by
 cases v<;>simp[Nw]
theorem ZxN:∀(vs:List (SV U.Ty)),Nw (Aw U vs)=YG vs:=by
 intro vs;induction vs with
 | nil=>rfl
 | cons v vs q=>
  simp only[Aw];rw[ZxC,q];cases v<;>simp[AY,Nw,YG]
end
end Go.Proofs.YtjodhcdmhobmoaaGreatDoor.Le
