/- A part of it. -/
import Derived.Test.YtjodhcdmhobmoaaGreatDoorWL3
set_option linter.unusedVariables false
set_option linter.unusedSimpArgs false
namespace Go.Proofs.YtjodhcdmhobmoaaGreatDoor.Le
open Go.RowKit (Below)
def PD (P:Program) (E:Env) (f:FuncId) (as:List V) (r:V):Prop:=
 ∀(fz:Nat->Nat->Prop) (w:World) (vs:List Value),(∀b c,fz b c->∃u,w.cell? ⟨b,c,none⟩=some u)->EK E (bare fz) w->AV (bare fz) w as vs ->
  Calls P f vs.toArray w fun e w' =>∃u q,e = .returned u/\Below w.heap.size w w' /\ (∀b c,fz b c->q b c)/\(∀b c,q b c->b<w.heap.size->fz b c) /\
   (∀b c,q b c->∃u,w'.cell? ⟨b,c,none⟩=some u)/\AV (bare q) w' [r] [u]/\DF r=true
def wP (P:Program) (E:Env) (f:FuncId) (as:List V) (e sz:Nat) (xs:List V):Prop:=
 ∀(fz:Nat->Nat->Prop) (w:World) (vs:List Value),(∀b c,fz b c->∃u,w.cell? ⟨b,c,none⟩=some u)->EK E (bare fz) w->AV (bare fz) w as vs ->
  Calls P f vs.toArray w fun z w' =>∃u us q,z = .returned u/\Below w.heap.size w w' /\ (∀b c,fz b c->q b c)/\(∀b c,q b c->b<w.heap.size->fz b c) /\
   (∀b c,q b c->∃u,w'.cell? ⟨b,c,none⟩=some u)/\AV (bare q) w' xs us/\(∀x∈xs,FW x=true)/\(∀u∈us,u.cells.size=sz)/\(∀u∈flat us,u.oneCell' = true) /\
   GZ w' w.heap.size e sz u xs.length (flat us)/\(∀g c,u.ownBlock=some g->¬q g c)
def NJ (P:Program) (f:FuncId):Prop:=∃fn,P.funcs[f]? = some fn/\fn.body.isNone=false/\(fn.name == "runtime.NumGoroutine")=false
structure SG (P:Program) (E:Env):Prop where
 env:∀f F,E.env f=some F->NJ P f/\∀as r,CY as=true->F as=some r->match E.own f with|none=>PD P E f as r|some e=>∀sz xs,r = .sl false sz xs->wP P E f as e sz xs
 hm:∀f key hs,E.hm f key=some hs->NJ P f/\∀as H0 r H1,hs.run as H0=some (r,H1)->Uf P E f as H0 r H1
 maps:∀f l,E.maps f=some l->NJ P f/\∀x H,Uf P E f [x] H (mkV l x) H
structure Q8 (P:Program) where
 tab:FuncId->Option (List (Int×FuncId))
 ok:∀f l,tab f=some l->NJ P f/\∀E x H,Uf P E f [x] H (mkV l x) H
def Q8.no (P:Program):Q8 P:=⟨fun _=>none,fun _ _ h=>by cases h⟩
theorem Below.grownBy {w w' : World} (h:Below w.heap.size w w'):w.grownBy w' none:=⟨h.os,h.tape,h.output,h.size,fun k hk _=>h.block k hk⟩
theorem Z2M {B w0 σ H w} (h:Inv B w0 σ H w) {x z : V} {v:Value} (q:AV σ w [x] [v]) (hf:Jz H x=some z):DF z = true:=by
 unfold Jz at hf;split at hf
 ·rename_i vs;cases q with
  | BK A _=>
   cases hl:Fp H vs with
   | none=>simp[hl]at hf
   | some C =>
    simp only[hl,Option.map_some,Option.some.injEq]at hf;subst hf;exact aZ h A hl
 ·exact uN h q hf
section
variable {P:Program} {E:Env} {B:Nat} {w0:Start} {σ:Sg} {H:Heap} {w:World} {f:FuncId}
theorem ZdU {args as:List V} {r:V} {vs:List Value} (ts:List TypeId) (hp:PD P E f (Gy E.rows ts as) r) (hf:Fp H args=some as) (hI:Inv B w0 σ H w) (hg:EK E σ w) (hr:AV σ w args vs) :
  Calls P f vs.toArray w fun e w' =>∃u σ',e = .returned u/\Inv B w0 σ' (bump H (args.flatMap EH)) w' /\ Ext σ w σ' w' /\ AV σ' w' [r] [u]:=by
 obtain⟨z,D⟩:=hI.freeze (args.flatMap EH);have hr1:=Z0E E.rows ts (rY hI hr hf (args.flatMap EH) (fun i hi=>hi));have hn:CY (Gy E.rows ts as)=true:=by rw[oH];exact aZ hI hr hf
 generalize hσ1:σ.freeze H (args.flatMap EH)=q at z D hr1;have hbox1:q.box=σ.box:=by rw[<- hσ1];rfl
 have J:∀b c,q.fz b c->(bare q.fz).fz b c/\w.cell? ⟨b,c,none⟩=w.cell? ⟨b,c,none⟩:=fun b c h=>⟨h,rfl⟩;refine(hp q.fz w vs z.cells ((hg.ext D).bare J (En.refl _)) (hr1.bare J (En.refl _) hn)).mono ?_
 rintro e w' ⟨u,Q,rfl,hb,N,F,G,hru,hnr⟩
 obtain⟨C,I⟩:=z.grown (Below.grownBy hb);have hcell:∀b c,q.fz b c->w'.cell? ⟨b,c,none⟩=w.cell? ⟨b,c,none⟩:=fun b c h=>(I.fz b c h).2;have Y:Ext q w' ⟨q.box,Q⟩ w' :=⟨fun id L O=>⟨L,O,rfl,.inl rfl⟩,fun b c h=>⟨N b c h,rfl⟩,En.refl _⟩;refine⟨u,⟨q.box,Q⟩,rfl,⟨C.below,C.size,C.dom,fun id bx hb hl=>?_,C.apart,G,fun b c hc id bx L hb hl O M=>?_,C.low,fun b c hc hlt=>?_,fun b hb=>?_⟩,D.trans (I.trans Y),?_⟩
 ·obtain⟨L,O,A⟩:=C.boxes id bx hb hl;obtain⟨us,h1,h2,h3,h4⟩:=A.EF;exact⟨L,O,⟨A.tot,⟨us,h1.ext Y,h2,h3,h4⟩,A.Ey,A.BA,A.oks,A.I5⟩⟩
 ·obtain⟨L',S,A⟩:=z.boxes id bx hb hl;rw[show q.box id=some L from O]at S;cases S;exact z.floor b c (F b c hc (A.block_lt M).2) id bx L hb hl O M
 ·exact z.old b c (F b c hc (Nat.lt_of_lt_of_le hlt z.size)) hlt
 ·obtain⟨k1,k2,k3,k4⟩:=C.kept b hb;exact⟨k1,k2,k3,fun c hc=>k4 c (F b c hc (z.kept b hb).1)⟩
 ·exact hru.bare (fun b c h=>⟨h,rfl⟩) (En.refl _) (by simp[CY,hnr])
theorem ownsRow_base {w:World} {b z e sz n:Nat} {v:Value} {us:List Value} (h:GZ w b e sz v n us) (hb:z <= b):GZ w z e sz v n us:=by
 refine⟨h.1,?_⟩;rcases h.2 with h|⟨g,cap,q,D,A,F,C⟩
 ·exact .inl h
 ·exact .inr ⟨g,cap,q,D,A,by omega,C⟩
theorem Zg0 {args as:List V} {e sz:Nat} {xs:List V} {vs:List Value} (ts:List TypeId) (hp:wP P E f (Gy E.rows ts as) e sz xs) (hf:Fp H args=some as) (hI:Inv B w0 σ H w) (hg:EK E σ w) (hr:AV σ w args vs) :
  Calls P f vs.toArray w fun en w' =>∃u σ',en = .returned u/\Inv B w0 σ' (place (bump H (args.flatMap EH)) H.length (CJ true false e sz xs)) w' /\ Ext σ w σ' w' /\ AV σ' w' [.Bl H.length 0 xs.length xs.length] [u]:=by
 obtain⟨q,F⟩:=hI.freeze (args.flatMap EH);have hr1:=Z0E E.rows ts (rY hI hr hf (args.flatMap EH) (fun i hi=>hi));have hn:CY (Gy E.rows ts as)=true:=by rw[oH];exact aZ hI hr hf
 generalize hσ1:σ.freeze H (args.flatMap EH)=C at q F hr1;have Q:∀b c,C.fz b c->(bare C.fz).fz b c/\w.cell? ⟨b,c,none⟩=w.cell? ⟨b,c,none⟩:=fun b c h=>⟨h,rfl⟩;refine(hp C.fz w vs q.cells ((hg.ext F).bare Q (En.refl _)) (hr1.bare Q (En.refl _) hn)).mono ?_
 rintro en w' ⟨u,us,fz',rfl,hb,S,I,J,hru,G,hsz,hone,A,hnfz⟩
 obtain⟨D,hEx2⟩:=q.grown (Below.grownBy hb);have hex:Ext C w' ⟨C.box,fz'⟩ w' :=⟨fun id L Y=>⟨L,Y,rfl,.inl rfl⟩,fun b c h=>⟨S b c h,rfl⟩,En.refl _⟩;have hI3:Inv B w0 ⟨C.box,fz'⟩ (bump H (args.flatMap EH)) w' :=by
  refine⟨D.below,D.size,D.dom,fun id bx hb hl=>?_,D.apart,J,fun b c hc id bx L hb hl Y A=>?_,D.low,fun b c hc hlt=>?_,fun b hb=>?_⟩
  ·obtain⟨L,Y,z⟩:=D.boxes id bx hb hl;obtain⟨us,h1,h2,h3,h4⟩:=z.EF;exact⟨L,Y,⟨z.tot,⟨us,h1.ext hex,h2,h3,h4⟩,z.Ey,z.BA,z.oks,z.I5⟩⟩
  ·obtain⟨L',hL',z⟩:=q.boxes id bx hb hl;rw[show C.box id=some L from Y]at hL';cases hL';exact q.floor b c (I b c hc (z.block_lt A).2) id bx L hb hl Y A
  ·exact q.old b c (I b c hc (Nat.lt_of_lt_of_le hlt q.size)) hlt
  ·obtain⟨k1,k2,k3,k4⟩:=D.kept b hb;exact⟨k1,k2,k3,fun c hc=>k4 c (I b c hc (q.kept b hb).1)⟩
 have hblk:∀g,u.ownBlock=some g->w.heap.size<=g:=by
  intro g M;rcases A.2 with ⟨N,_⟩|⟨g',cap,cur,tg,N,hle,_⟩
  ·rw[N]at M;cases M
  ·rw[N]at M;simp only[Value.ownBlock,Option.some.injEq]at M;omega
 have hnr:CY xs=true:=QG G;have hk:GH (bump H (args.flatMap EH)) H.length=true:=by
  have:=gK (bump H (args.flatMap EH));rwa[bump_length]at this
 obtain⟨hI4,hEx4⟩:=hI3.ZFl hk (CJ true false e sz xs) rfl ⟨u,xs.length,sz⟩ (by simp[CJ])
  (fun id bx' L' g h1 h2 h3 h4 h5=>by
   obtain⟨L'',O,z⟩:=q.boxes id bx' h1 h2;rw[show C.box id=some L' from h3]at O;cases O;have:=(z.block_lt h4).2
   grind)
  (fun g c h=>hnfz g c h) (fun g h hk=>by have:=(q.kept g hk).1;have:=hblk g h;omega)
  ⟨rfl,⟨us,hru.bare (fun b c h=>⟨h,rfl⟩) (En.refl _) hnr,hsz,hone,by simpa[CJ]using ownsRow_base A q.size⟩,by simp[CJ],rfl,Z3Y G,fun _ x hx=>Rk (G x hx)⟩
 have hval:∃a n c,u = .slice a n c/\n=xs.length/\n<=c:=by
  rcases A.2 with ⟨N,hn⟩|⟨g,cap,cur,tg,N,_,_,_,hnc,_⟩
  ·grind
  ·grind
 obtain⟨a,n,c,N,hn',hnc⟩:=hval;refine⟨u,_,rfl,hI4,F.trans (hEx2.trans (hex.trans hEx4)),.Bl (L:=⟨u,xs.length,sz⟩) (by simp[Sg.put]) (Nat.le_refl _) (fun _=>⟨by omega,a,n,c,0,N,?_,Nat.zero_le _,Nat.le_refl _,fun _=>rfl⟩) ⟨a,n,c,N⟩ .nil⟩;subst hn';rw[N];cases a with
 | none=>simp
 | some a=>simp[Addr.add]
theorem ZgP (J:DV E) (N:E.P=P) {call:EO} (z:Jo P E B w0 call) (A:Ou E call) {fn:Func} (Q:E.func f=some fn) {n:Nat} {args:List V} {H' : Heap} {r:V} {vs:List Value}
  (hb:Ql call n E f fn args H=some (r,H')) (hI:Inv B w0 σ H w) (hg:EK E σ w) (hr:AV σ w args vs) :
  NJ P f/\Calls P f vs.toArray w fun e w' =>∃u σ',e = .returned u/\Inv B w0 σ' H' w' /\ Ext σ w σ' w' /\ AV σ' w' [r] [u]:=by
 unfold Ql at hb;cases q:fn.body with
 | none=>simp[q]at hb
 | some c=>
  simp only[q]at hb;obtain⟨M,hf2⟩:=J.func f fn Q;rw[N]at M;refine⟨⟨fn,M,by simp[q],hf2⟩,calls_of_wp M q ?_⟩;have O:=J.calm f fn c Q q;have F:AV σ w (args++List.replicate (fn.ntmps - args.length) Ef) (vs.toArray++Array.replicate (fn.ntmps - vs.toArray.size) undef).toList:=by
   simp only[Array.toList_append,Array.toList_replicate,List.size_toArray];rw[<- hr.length];exact hr.append (AV.replicate _ (.no .nil))
  have I:F5 E B w0 σ ⟨args++List.replicate (fn.ntmps - args.length) Ef,H⟩ { tmps:=vs.toArray++Array.replicate (fn.ntmps - vs.toArray.size) undef,defers:=[] } w:=⟨hI,hg,F,rfl⟩;have G:∀st,(Lc E st.H st.s fn.results.toList).map (·,st.H)=some (r,H')->∀S w' σ',F5 E B w0 σ' st S w' -> Ext σ w σ' w' ->
    S.defers=[]/\∃v,(results fn S.tmps).run P w' = .ok v w' /\ (fun e w' =>∃u σ',e=Ending.returned u/\Inv B w0 σ' H' w' /\ Ext σ w σ' w' /\ AV σ' w' [r] [u]) (.returned v) w' :=by
   intro st C S w' σ' D Y;cases hx:Lc E st.H st.s fn.results.toList with
   | none=>simp[hx]at C
   | some x=>
    simp only[hx,Option.map_some,Option.some.injEq,Prod.mk.injEq]at C;obtain⟨rfl,rfl⟩:=C;obtain⟨u,hu,hur⟩:=tY (P:=P) J N D.inv D.slots hx;exact⟨D.calm,u,hu,u,σ',rfl,D.inv,Y,hur⟩
  split at hb
  ·rename_i st hc;exact U7 J N z A (Z46 J N z A n) c _ .normal st O hc _ σ _ w I (G st hb)
  ·rename_i st hc;exact U7 J N z A (Z46 J N z A n) c _ .ret st O hc _ σ _ w I (G st hb)
  ·cases hb
theorem Zfe (hE:DV E) (hP:E.P=P) {call:EO} (C:∀B w0,Jo P E B w0 call) (D:Ou E call) {fn:Func} (N:E.func f=some fn) {n:Nat} {as:List V} {H' : Heap} {M r:V}
  (hb:Ql call n E f fn as []=some (M,H')) (I:Jz H' M=some r):PD P E f as r:=by
 intro fz w vs q hg hr;have hI:Inv w.heap.size (Start.of w fz) (bare fz) [] w:=⟨Below.refl _ w,Nat.le_refl _,fun id L hL=>(by cases hL),fun id bx hb=>by simp at hb,fun i j b1 b2 L1 L2 g Y=>by simp at Y,q,
  fun b c hc id bx L hb=>by simp at hb,fun id bx hb=>by simp at hb,fun b c hc _=>hc,fun b hb=>hb.elim⟩
 obtain⟨_,hc⟩:=ZgP hE hP (C w.heap.size (Start.of w fz)) D N hb hI hg hr;refine hc.mono ?_
 rintro e w' ⟨u,σ',rfl,z,F,J⟩
 obtain⟨A,G⟩:=z.freeze (P5 M);have Q:=Z3o z J I (P5 M) (fun i hi=>hi);have S:=Z2M z J I;refine⟨u,(σ'.freeze H' (P5 M)).fz,rfl,A.below,fun b c h=>(G.fz b c (F.fz b c h).1).1,fun b c h O=>A.old b c h O,A.cells,?_,S⟩;exact Q.bare (fun b c h=>⟨h,rfl⟩) (En.refl _) (by simp[CY,S])
theorem Zs0 {H:Heap}:∀{xs ys:List V},Fp H xs=some ys->xs.length=ys.length:=by
 intro xs;induction xs with
 | nil=>intro ys h;simp[Fp]at h;subst h;rfl
 | cons x xs q=>
  intro ys h;simp only[Fp]at h
  grind
theorem ZB2 {H H' : Heap} {x:V} (h:Dl (D5 x) H H'):PN H' x=PN H x:=by
 unfold PN;split
 ·rename_i id i off tot;split
  ·cases hb:Dt H id tot with
   | none=>rw[UZ (h id (by simp[D5,Ec])) hb]
   | some b=>
    obtain⟨z,I,q⟩:=QQ (h id (by simp[D5,Ec])) hb;obtain⟨A,C,D,F,G⟩:=Uc q
    simp_all
  ·rfl
 ·exact Zh3 h
theorem Zwp {H H' : Heap} {xs:List V} (h:Dl (xs.flatMap D5) H H'):Lj H' xs=Lj H xs:=by
 induction xs with
 | nil=>rfl
 | cons x xs z=>
  simp only[Lj];rw[ZB2 (fun i q=>h i (by simp[q])),z (fun i q=>h i (by rw[List.flatMap_cons];exact List.mem_append_right _ q))]
theorem ZzZ (n:Nat):xE E (FI E n):=by
 intro f hp args H v H1 h;cases n with
 | zero=>cases h
 | succ n=>
  unfold FI at h;cases z:E.maps f with
  | some l=>
   simp only[z]at h;split at h
   ·rename_i x;split at h
    ·rename_i O;simp only[Option.some.injEq,Prod.mk.injEq]at h;obtain⟨rfl,rfl⟩:=h;have hi' : [x].flatMap EH=[]:=by simpa using O
     refine⟨by rw[hi'];rfl,fun H' _=>?_⟩;unfold FI;simp only[z];rw[if_pos O,hi'];rfl
    ·cases h
   ·cases h
  | none=>
  simp only[z]at h;have hp:((E.pure f||(E.env f).isSome)&&(E.own f).isNone)=true:=by simpa[Xg,z]using hp
  cases q:E.env f with
  | some F=>
   simp only[q]at h
   by_cases M:args.any Ur=true
   ·rw[if_pos M]at h;have D:E.own f=none:=by simpa using (Bool.and_eq_true_iff.1 hp).2
    cases hf:Lj H args with
    | none=>simp[hf,D]at h
    | some as=>
     simp only[hf,D]at h;cases A:F (Gy E.rows (E.par f) as) with
     | none=>simp[A]at h
     | some r=>
      simp only[A]at h;split at h
      ·rename_i N;simp only[Option.some.injEq,Prod.mk.injEq]at h;refine⟨h.2.symm,fun H' hs=>?_⟩;unfold FI;simp only[z,q];rw[if_pos M,Zwp hs,hf];simp only[D,A];rw[if_pos N,h.1]
      ·cases h
   rw[if_neg M]at h;cases hf:Fp H args with
   | none=>simp[hf]at h
   | some as=>
    have D:E.own f=none:=by simpa using (Bool.and_eq_true_iff.1 hp).2
    simp only[hf,D]at h;cases A:F (Gy E.rows (E.par f) as) with
    | none=>simp[A]at h
    | some r=>
     simp only[A,Option.map_some,Option.some.injEq,Prod.mk.injEq]at h;refine⟨h.2.symm,fun H' hs=>?_⟩;unfold FI;simp only[z,q];rw[if_neg M,Z2C hs,hf];simp only[D,A,Option.map_some,h.1]
  | none=>
   have J:E.pure f=true:=by simpa[q]using (Bool.and_eq_true_iff.1 hp).1
   simp only[q,J,if_true]at h;cases C:E.func f with
   | none=>simp[C]at h
   | some fn=>
    simp only[C]at h;cases hf:Fp H args with
    | none=>simp[hf]at h
    | some as=>
     simp only[hf]at h;cases G:Ql (FI E n) n E f fn as [] with
     | none=>simp[G]at h
     | some Y=>
      obtain⟨S,Q⟩:=Y;simp only[G]at h;cases I:Jz Q S with
      | none=>simp[I]at h
      | some r=>
       simp only[I,Option.map_some,Option.some.injEq,Prod.mk.injEq]at h;refine⟨h.2.symm,fun H' hs=>?_⟩;unfold FI;simp only[z,q,J,if_true,C];rw[Z2C hs,hf]
       simp_all
theorem uU (H:Heap) (a b:List Nat):bump (bump H a) b=bump H (a++b):=by
 induction a generalizing H with
 | nil=>rfl
 | cons i a q=>simp only[bump,List.cons_append,q]
theorem Zef {f:Fk} {H H1:Heap} {x y:V} (h:I9 f H x=some (y,H1)) (q:Ei y=[]):∃ids,(∀i∈ids,i∈Ec x)/\H1=bump H ids/\∀H',Dl (Ec x) H H' -> I9 f H' x=some (y,bump H' ids):=by
 cases f with
 | s e sz=>
  simp only[I9]at h;cases hf:Ia H x with
  | none=>simp[hf]at h
  | some w=>
   simp only[hf,Option.map_some,Option.some.injEq,Prod.mk.injEq]at h;obtain⟨rfl,rfl⟩:=h;exact⟨Fb x,fun i z=>ZgI z,rfl,fun H' hs=>by simp only[I9,Z3t hs,hf,Option.map_some]⟩
 | own e sz=>
  exfalso;simp only[I9,jY]at h;split at h
  ·simp only[Option.some.injEq,Prod.mk.injEq]at h;rw[<- h.1]at q;simp[Ei]at q
  ·simp only[Option.some.injEq,Prod.mk.injEq]at h;rw[<- h.1]at q;simp[Ei]at q
  ·split at h
   ·simp only[Option.some.injEq,Prod.mk.injEq]at h;rw[<- h.1]at q;simp[Ei]at q
   ·cases h
  ·cases h
 | keep=>
  simp only[I9,Option.some.injEq,Prod.mk.injEq]at h;obtain⟨rfl,rfl⟩:=h;exact⟨[],by simp,rfl,fun H' _=>rfl⟩
 | drop=>
  simp only[I9,Option.some.injEq,Prod.mk.injEq]at h;obtain⟨rfl,rfl⟩:=h;exact⟨[],by simp,rfl,fun H' _=>rfl⟩
theorem Zy7:∀{fl:List Fk} {H H1:Heap} {xs ys:List V},I8 fl H xs=some (ys,H1)->Dx ys=[]->∃ids,(∀i∈ids,i∈xs.flatMap Ec)/\H1=bump H ids/\∀H',Dl (xs.flatMap Ec) H H' -> I8 fl H' xs=some (ys,bump H' ids):=by
 intro fl;induction fl with
 | nil=>
  intro H H1 xs ys h A;cases xs with
  | nil=>
   simp only[I8,Option.some.injEq,Prod.mk.injEq]at h;obtain⟨rfl,rfl⟩:=h;exact⟨[],by simp,rfl,fun H' _=>rfl⟩
  | cons=>simp[I8]at h
 | cons f fl O=>
  intro H H1 xs ys h A;cases xs with
  | nil=>simp[I8]at h
  | cons x xs=>
   simp only[I8]at h;cases C:I9 f H x with
   | none=>simp[C]at h
   | some r=>
    obtain⟨y,M⟩:=r;simp only[C]at h;cases D:I8 fl M xs with
    | none=>simp[D]at h
    | some q=>
     obtain⟨Y,Q⟩:=q;simp only[D,Option.some.injEq,Prod.mk.injEq]at h;obtain⟨rfl,rfl⟩:=h;simp only[Dx,List.append_eq_nil_iff]at A;obtain⟨z,S,rfl,N⟩:=Zef C A.1;obtain⟨J,b1,rfl,b3⟩:=O D A.2;refine⟨z++J,fun i I=>?_,uU H z J,fun H' hs=>?_⟩
     ·grind
     ·have F:Dl (Ec x) H H' :=fun i I=>hs i (by simp_all);have G:Dl (xs.flatMap Ec) (bump H z) (bump H' z):=(Rw _ z H).symm.trans (Dl.trans (fun i I=>hs i (by simp_all)) (Rw _ z H'));simp only[I8,N H' F,b3 _ G,uU]
theorem ZyE {fl:List Fk} {H H1:Heap} {x y:V} (h:KU fl H x=some (y,H1)) (F:Ei y=[]):∃ids,(∀i∈ids,i∈D5 x)/\H1=bump H ids/\∀H',Dl (D5 x) H H' -> KU fl H' x=some (y,bump H' ids):=by
 unfold KU at h;split at h
 ·rename_i cs;cases D:I8 fl H cs with
  | none=>simp[D]at h
  | some r=>
   obtain⟨ys,J⟩:=r;simp only[D,Option.map_some,Option.some.injEq,Prod.mk.injEq]at h;obtain⟨rfl,rfl⟩:=h;obtain⟨ids,z,A,C⟩:=Zy7 D (by simpa[Ei]using F);exact⟨ids,z,A,fun H' hs=>by simp only[KU,C H' hs,Option.map_some]⟩
 ·rename_i I;have G:∀i∈Ec x,i∈D5 x:=fun i q=>by
   cases x with
   | fn f a b=>simp[Ec]at q
   | agg cs=>simp_all
   | _=>exact q
  split at h
  ·rename_i f;obtain⟨ids,z,A,C⟩:=Zef h F;refine⟨ids,fun i q=>G i (z i q),A,fun H' hs=>?_⟩;unfold KU;split
   ·simp_all
   ·exact C H' (fun i q=>hs i (G i q))
  ·cases h
theorem Zzy:∀{fa:List (List Fk)} {H H1:Heap} {xs ys:List V},Ih fa H xs=some (ys,H1)->Dx ys=[]->∃ids,(∀i∈ids,i∈xs.flatMap D5)/\H1=bump H ids/\∀H',Dl (xs.flatMap D5) H H' -> Ih fa H' xs=some (ys,bump H' ids):=by
 intro fl;induction fl with
 | nil=>
  intro H H1 xs ys h A;cases xs with
  | nil=>
   simp only[Ih,Option.some.injEq,Prod.mk.injEq]at h;obtain⟨rfl,rfl⟩:=h;exact⟨[],by simp,rfl,fun H' _=>rfl⟩
  | cons=>simp[Ih]at h
 | cons f fl O=>
  intro H H1 xs ys h A;cases xs with
  | nil=>simp[Ih]at h
  | cons x xs=>
   simp only[Ih]at h;cases C:KU f H x with
   | none=>simp[C]at h
   | some r=>
    obtain⟨y,M⟩:=r;simp only[C]at h;cases D:Ih fl M xs with
    | none=>simp[D]at h
    | some q=>
     obtain⟨Y,Q⟩:=q;simp only[D,Option.some.injEq,Prod.mk.injEq]at h;obtain⟨rfl,rfl⟩:=h;simp only[Dx,List.append_eq_nil_iff]at A;obtain⟨z,S,rfl,N⟩:=ZyE C A.1;obtain⟨J,b1,rfl,b3⟩:=O D A.2;refine⟨z++J,fun i I=>?_,uU H z J,fun H' hs=>?_⟩
     ·grind
     ·have F:Dl (D5 x) H H' :=fun i I=>hs i (by simp_all);have G:Dl (xs.flatMap D5) (bump H z) (bump H' z):=(Rw _ z H).symm.trans (Dl.trans (fun i I=>hs i (by simp_all)) (Rw _ z H'));simp only[Ih,N H' F,b3 _ G,uU]
theorem Zyt {n:Nat} {H z:Heap} {q ids:List Nat} (h:KY n [] H q []=some (z,ids)):q=[]/\z=H/\ids=[]:=by
 cases n with
 | zero=>cases h
 | succ n=>
  cases q with
  | nil=>
   simp only[KY,Option.some.injEq,Prod.mk.injEq]at h
   simp_all
  | cons i q=>
   exfalso;unfold KY at h
   simp_all
theorem ZA5 {hs:XR} (A:hs.fb=[]) {args:List V} {H H1:Heap} {v:V} (h:PW hs args H=some (v,H1)) :
  ∃ids D,(∀i∈ids,i∈args.flatMap D5)/\H1=bump H ids++D/\∀H',H'.length=H.length->Dl (args.flatMap D5) H H' -> PW hs args H' = some (v,bump H' ids++D):=by
 unfold PW at h;unfold pack at h;rw[A]at h;cases hp:Ih hs.fa H args with
 | none=>simp[hp]at h
 | some r=>
  obtain⟨as,M⟩:=r;simp only[hp]at h;cases hk:KY 1000 [] M (List.range 0++Dx as) [] with
  | none=>rw[hk]at h;cases h
  | some q=>
   obtain⟨S,I⟩:=q;obtain⟨F,rfl,rfl⟩:=Zyt hk;simp only[List.range_zero,List.nil_append]at F;obtain⟨ids,N,rfl,O⟩:=Zzy hp F;simp only[hk]at h;cases z:hs.run (IC (([]:List Nat).idxOf ·) as) (JP (bump H ids) []) with
   | none=>rw[z]at h;cases h
   | some Q=>
    obtain⟨r,J⟩:=Q;simp only[z,List.length_nil,Nat.zero_le,if_true,Option.some.injEq,Prod.mk.injEq,bump_length]at h;obtain⟨rfl,rfl⟩:=h;refine⟨ids,J.map (Gs (Jr [] H.length)),N,by simp only[Ov,Qr,bump_length],fun H' hl G =>?_⟩;unfold PW pack;rw[A,O H' G];simp only[List.range_zero,List.nil_append,F,KY];have C:JP (bump H' ids) []=JP (bump H ids) []:=rfl;simp only[C,z,List.length_nil,Nat.zero_le,if_true,bump_length,hl,Ov,Qr]
theorem ZxL (n:Nat):xK E (FI E n):=by
 intro f hf args H v H1 h;cases n with
 | zero=>cases h
 | succ n=>
  have D:=hf;unfold Qk at hf;simp only[Bool.and_eq_true,Option.isNone_iff_eq_none,Bool.not_eq_true']at hf;obtain⟨⟨⟨M,N⟩,O⟩,q⟩:=hf;cases A:E.hm f [] with
  | none=>rw[A]at q;cases q
  | some hs=>
   rw[A]at q;have z:hs.fb=[]:=by simpa using q
   have C:∀H,FI E (n+1) f args H=PW hs args H:=fun H=>by
    unfold FI
    simp_all
   rw[C]at h;obtain⟨ids,F,G,I,J⟩:=ZA5 z h
   grind
theorem Vz (n:Nat):Ou E (FI E n):=⟨ZzZ n,ZxL n⟩
def kG (w:World) (b c:Nat):Prop:=∃u,w.cell? ⟨b,c,none⟩=some u
theorem ZCe {σ σ' : Sg} {w w' : World} {cs:List V} {ws:List Value} (h:AV σ w cs ws):AV σ' w' (cs.map X4) ws:=by
 induction cs generalizing ws with
 | nil=>cases h.Fj;exact .nil
 | cons c cs A=>
  obtain⟨v,vs,rfl,q,z⟩:=h.EP;simp only[List.map_cons];refine AV.F8.2 ⟨?_,A z⟩;cases q with
  | lit hl _=>exact .lit hl .nil
  | _=>exact .und _ .nil
theorem Zee (cs:List V):CY (cs.map X4)=true:=by
 induction cs with
 | nil=>rfl
 | cons c cs q=>cases c<;>simp[X4,CY,DF,q]
theorem ZyR {B:Nat} {w0:Start} {σ:Sg} {H:Heap} {w:World} (h:Inv B w0 σ H w) {x y:V} {v:Value} (I:AV σ w [x] [v]) (hs:PN H x=some y):AV (bare (kG w)) w [y] [v]/\DF y=true:=by
 unfold PN at hs;split at hs
 ·rename_i id i off tot;split at hs
  ·rename_i hz;obtain⟨rfl,rfl⟩:=hz;split at hs
   ·rename_i b hb;obtain⟨b1,b2,b3⟩:=WR hb;split at hs
    ·rename_i cs F C;simp only[Option.some.injEq]at hs;subst hs;obtain⟨L,us,m⟩:=h.meet b1 b2;cases I with
     | ptr g k1 k2 k3 k4 k5=>
      rename_i J;have N:J = L:=by
       have:=m.box;rw[k1]at this;cases this;rfl
      subst N;obtain⟨n,c,Q⟩:=k3 (m.tot.trans b3);have q:=m.EF;rw[C]at q;have A:∃ws:List Value,us=[.agg ws.toArray]/\AV σ w cs ws/\∀u∈ws,u.oneCell' = true:=by
       cases q with
       | agg q1 q2 q3=>cases q3;exact⟨_,rfl,q1,q2⟩
      obtain⟨ws,A,O,D⟩:=A;refine⟨?_,by simp[DF,CY,Zee]⟩;have key:AV (bare (kG w)) w [.CX b.BA [.agg (cs.map X4)] 0 0] [.pointer (some ⟨g,0+0*b.BA+0,none⟩)]:=by
       refine .CX (us:=us) g 0 b.BA 0 0 ?_ ?_ (fun u hu=>by rw[m.BA];exact m.sizes u hu) m.ones ?_ .nil
       ·rw[A];exact .agg (ZCe O) D .nil
       ·intro x G;simp only[List.mem_singleton]at G;subst G;simp[FW,okV,DF,Zee]
       ·intro j u hu;have:=m.cell (g:=g) (by rw[Q];rfl) j u hu;rw[Nat.zero_add];exact⟨⟨u,this⟩,this⟩
      simp_all
    ·rename_i z F C;simp only[Option.some.injEq]at hs;subst hs;obtain⟨L,us,m⟩:=h.meet b1 b2;cases I with
     | ptr g k1 k2 k3 k4 k5=>
      rename_i J;have N:J = L:=by
       have:=m.box;rw[k1]at this;cases this;rfl
      subst N;obtain⟨n,c,Q⟩:=k3 (m.tot.trans b3);have q:=m.EF;rw[C]at q;have A:us=[z]/\leaf z=true:=by
       cases q with
       | lit q1 q2=>cases q2;exact⟨rfl,q1⟩
      obtain⟨A,hz⟩:=A;refine⟨?_,by simp[DF,CY]⟩;have key:AV (bare (kG w)) w [.CX b.BA [.lit z] 0 0] [.pointer (some ⟨g,0+0*b.BA+0,none⟩)]:=by
       refine .CX (us:=us) g 0 b.BA 0 0 ?_ ?_ (fun u hu=>by rw[m.BA];exact m.sizes u hu) m.ones ?_ .nil
       ·rw[A];exact .lit hz .nil
       ·intro x G;simp only[List.mem_singleton]at G;subst G;simp[FW,okV,DF]
       ·intro j u hu;have:=m.cell (g:=g) (by rw[Q];rfl) j u hu;rw[Nat.zero_add];exact⟨⟨u,this⟩,this⟩
      simp_all
    ·cases hs
   ·cases hs
  ·cases hs
 ·have Y:=uN h I hs;refine⟨?_,Y⟩;obtain⟨M,S⟩:=h.freeze (EH x);have:=vN h I hs (EH x) (fun i hi=>hi);exact this.bare (fun b c hh=>⟨M.cells b c hh,rfl⟩) (En.refl _) (by simp[CY,Y])
theorem ZuN {B:Nat} {w0:Start} {σ:Sg} {H:Heap} {w:World} (h:Inv B w0 σ H w):∀{xs ys:List V} {vs:List Value},AV σ w xs vs->Lj H xs=some ys->AV (bare (kG w)) w ys vs/\CY ys=true:=by
 intro xs;induction xs with
 | nil=>
  intro ys vs q hs;cases q.Fj;simp only[Lj,Option.some.injEq]at hs;subst hs;exact⟨.nil,rfl⟩
 | cons x xs F=>
  intro ys vs q hs;obtain⟨v,M,rfl,C,D⟩:=q.EP;simp only[Lj]at hs;split at hs
  ·rename_i y N z A;simp only[Option.some.injEq]at hs;subst hs;obtain⟨I,n1⟩:=ZyR h C z;obtain⟨J,G⟩:=F D A;exact⟨AV.F8.2 ⟨I,J⟩,by simp[CY,n1,G]⟩
  ·cases hs
theorem ZeZ {σ σ' : Sg} {w w' : World} {cs:List V} {ws:List Value} (h:AV σ w cs ws) (hl:cs.all JM=true):AV σ' w' cs ws:=by
 induction cs generalizing ws with
 | nil=>cases h.Fj;exact .nil
 | cons c cs C=>
  obtain⟨v,vs,rfl,z,A⟩:=h.EP;simp only[List.all_cons,Bool.and_eq_true]at hl;refine AV.F8.2 ⟨?_,C A hl.2⟩;cases z with
  | lit q _=>exact .lit q .nil
  | _=>simp[JM]at hl
theorem Zxq {σ σ' : Sg} {w w' : World} {x:V} {u:Value} (h:AV σ w [x] [u]) (hl:KW x=true):AV σ' w' [x] [u]:=by
 cases h with
 | lit q _=>exact .lit q .nil
 | agg z A _=>exact .agg (ZeZ z (by simpa[KW]using hl)) A .nil
 | _=>simp[KW]at hl
theorem ZxY {σ σ' : Sg} {w w' : World} {cs:List V} {ws:List Value} (h:AV σ w cs ws) (hl:cs.all KW=true):AV σ' w' cs ws:=by
 induction cs generalizing ws with
 | nil=>cases h.Fj;exact .nil
 | cons c cs A=>
  obtain⟨v,vs,rfl,q,z⟩:=h.EP;simp only[List.all_cons,Bool.and_eq_true]at hl;exact AV.F8.2 ⟨Zxq q hl.1,A z hl.2⟩
theorem ZAn {σ σ' : Sg} {w w' : World} {x:V} {u:Value} (h:AV σ w [x] [u]) (hl:PL x=true):AV σ' w' [x] [u]:=by
 cases h with
 | lit z _=>exact .lit z .nil
 | agg q A _=>exact .agg (ZeZ q (by simpa[PL,KW]using hl)) A .nil
 | BK q _=>exact .BK (ZxY q (by simpa[PL]using hl)) .nil
 | _=>simp[PL,KW]at hl
theorem ZvZ {P:Program} {E:Env} {B:Nat} {w0:Start} {σ:Sg} {H:Heap} {w:World} {f:FuncId} {args as:List V} {r:V} {vs:List Value} (ts:List TypeId) (hp:CY (Gy E.rows ts as)=true->PD P E f (Gy E.rows ts as) r) (hf:Lj H args=some as) (G:PL r=true) (C:Inv B w0 σ H w) (Q:EK E σ w) (Y:AV σ w args vs) :
  Calls P f vs.toArray w fun e w' =>∃u σ',e = .returned u/\Inv B w0 σ' (bump H (args.flatMap EH)) w' /\ Ext σ w σ' w' /\ AV σ' w' [r] [u]:=by
 obtain⟨D,q⟩:=C.freeze (args.flatMap EH);obtain⟨r1,n1⟩:=ZuN C Y hf;have J:=Z0E E.rows ts r1;refine(hp (by rw[oH];exact n1) (kG w) w vs (fun b c h=>h) (Q.bare (fun b c h=>⟨C.cells b c h,rfl⟩) (En.refl _)) J).mono ?_
 rintro e w' ⟨u,O,rfl,hb,I,N,A,M,S⟩
 obtain⟨F,z⟩:=D.grown (Below.grownBy hb);exact⟨u,_,rfl,F,q.trans z,ZAn M G⟩
theorem Z3J (hE:DV E) (hP:E.P=P) (hF:SG P E):∀(n:Nat) (B:Nat) (w0:Start),Jo P E B w0 (FI E n):=by
 intro n;induction n with
 | zero=>intro B w0 f args H x H' σ w vs h;cases h
 | succ n ih=>
  intro B w0 f args H x H' σ w vs h G N J;unfold FI at h;cases Q:E.maps f with
  | some l=>
   simp only[Q]at h;split at h
   ·rename_i x;split at h
    ·simp only[Option.some.injEq,Prod.mk.injEq]at h;obtain⟨rfl,rfl⟩:=h;obtain⟨D,S⟩:=hF.maps f l Q;exact⟨D,S x H B w0 σ w vs G N J⟩
    ·cases h
   ·cases h
  | none=>
  simp only[Q]at h;cases z:E.env f with
  | some F=>
   simp only[z]at h
   by_cases hq:args.any Ur=true
   ·rw[if_pos hq]at h;cases I:E.own f with
    | some e=>simp[I]at h
    | none=>
     cases hf:Lj H args with
     | none=>simp[I,hf]at h
     | some as=>
      simp only[I,hf]at h;cases A:F (Gy E.rows (E.par f) as) with
      | none=>simp[A]at h
      | some r=>
       simp only[A]at h;split at h
       ·rename_i hfl;simp only[Option.some.injEq,Prod.mk.injEq]at h;obtain⟨rfl,rfl⟩:=h;obtain⟨D,S⟩:=hF.env f F z;refine⟨D,ZvZ (E.par f) (fun hn=>?_) hf hfl G N J⟩
        simp_all
       ·cases h
   rw[if_neg hq]at h;cases hf:Fp H args with
   | none=>simp[hf]at h
   | some as=>
    simp only[hf]at h;cases A:F (Gy E.rows (E.par f) as) with
    | none=>
     grind
    | some r=>
     obtain⟨D,S⟩:=hF.env f F z;have h3:=S _ r (by rw[oH];exact aZ G J hf) A;cases I:E.own f with
     | none=>
      simp only[I,A,Option.map_some,Option.some.injEq,Prod.mk.injEq]at h;obtain⟨rfl,rfl⟩:=h;rw[I]at h3;exact⟨D,ZdU (E.par f) h3 hf G N J⟩
     | some e=>
      simp only[I,A]at h;rw[I]at h3;split at h
      ·rename_i sz xs hr0;simp only[Option.some.injEq,Prod.mk.injEq]at h hr0;obtain⟨rfl,rfl⟩:=h;exact⟨D,Zg0 (E.par f) (h3 sz xs hr0) hf G N J⟩
      ·cases h
  | none=>
   simp only[z]at h;split at h
   ·cases q:E.func f with
    | none=>simp[q]at h
    | some fn=>
     simp only[q]at h;cases hf:Fp H args with
     | none=>simp[hf]at h
     | some as=>
      simp only[hf]at h;cases C:Ql (FI E n) n E f fn as [] with
      | none=>simp[C]at h
      | some rr=>
       obtain⟨r0,H2⟩:=rr;simp only[C]at h;cases M:Jz H2 r0 with
       | none=>simp[M]at h
       | some r=>
        simp only[M,Option.map_some,Option.some.injEq,Prod.mk.injEq]at h;obtain⟨rfl,rfl⟩:=h;have Y:NJ P f:=by
         obtain⟨hf1,hf2⟩:=hE.func f fn q;rw[hP]at hf1;refine⟨fn,hf1,?_,hf2⟩;unfold Ql at C;cases hb:fn.body with
         | none=>simp[hb]at C
         | some c=>rfl
        exact⟨Y,ZdU [] (by simpa[Gy]using Zfe hE hP ih (Vz n) q C M) hf G N J⟩
   ·cases O:E.hm f (if Qk E f then [] else N8 args) with
    | some hs=>
     simp only[O]at h;obtain⟨D,S⟩:=hF.hm f _ hs O;exact⟨D,ZDP S h G N J⟩
    | none=>
     simp only[O]at h;cases q:E.func f with
     | none=>simp[q]at h
     | some fn=>
      simp only[q]at h;exact ZgP hE hP (ih B w0) (Vz n) q h G N J
theorem ZBD {n:Nat} {as:List V} {r:V} {H' : Heap} (F:DV E) (G:E.P=P) (J:SG P E) (hp:E.pure f=true) (D:E.env f=none) (C:E.maps f=none) (M:Fp [] as=some as) (h:FI E (n+1) f as []=some (r,H')):PD P E f as r:=by
 unfold FI at h;simp only[C,D,hp,if_true]at h;cases z:E.func f with
 | none=>simp[z]at h
 | some fn=>
  simp only[z,M]at h;cases q:Ql (FI E n) n E f fn as [] with
  | none=>simp[q]at h
  | some O=>
   obtain⟨N,I⟩:=O;simp only[q]at h;cases A:Jz I N with
   | none=>simp[A]at h
   | some Q =>
    simp only[A,Option.map_some,Option.some.injEq,Prod.mk.injEq]at h;obtain⟨rfl,_⟩:=h;exact Zfe F G (Z3J F G J n) (Vz n) z q A
end
end Go.Proofs.YtjodhcdmhobmoaaGreatDoor.Le
namespace Go.Proofs.YtjodhcdmhobmoaaGreatDoor.Le
inductive SV (Ty:Nat->Type) where
 | lit (v:Value)
 | si (k:IntKind) (a:Int)
 | sb (b:Bool)
 | ss (s:ByteArray)
 | agg (cs:List (SV Ty))
 | BK (vs:List (SV Ty))
 | nil (e:Nat)
 | sl (t:Nat) (xs:List (Ty t))
 | DT (t:Nat) (xs:List (Ty t))
 | all (id n:Nat)
 | Bl (id off len tot:Nat)
 | ptr (id i off tot:Nat)
 | CX (t:Nat) (xs:List (Ty t)) (i off:Nat)
 | fn (f:FuncId) (first caps:List (SV Ty))
 | raw (v:V)
 | O3 (kvs:List (SV Ty))
 | VI (d:Nat) (cs:List V) (off:Nat)
 | no
 | und
instance (Ty:Nat->Type):Inhabited (SV Ty):=⟨.und⟩
structure DI where
 Ty:Nat->Type
 BA:Nat->Nat
 enc:(t:Nat)->Ty t->V
 encS:(t:Nat)->Ty t->SV Ty
 IP:(t:Nat)->SV Ty->Option (Ty t)
 keys:List Nat
section
variable (U:DI)
mutual
def AY:SV U.Ty->V
 | .lit v=>.lit v
 | .si k a=>.lit (.int k a)
 | .sb b=>.lit (.bool b)
 | .ss s=>.lit (.string s)
 | .agg cs=>.agg (BB cs)
 | .BK cs=>.BK (BB cs)
 | .nil e=>.sl true e []
 | .sl t xs=>.sl false (U.BA t) (xs.map (U.enc t))
 | .DT t xs=>.DT false (U.BA t) (xs.map (U.enc t))
 | .all id n=>.Bl id 0 n n
 | .Bl id off len tot=>.Bl id off len tot
 | .ptr id i off tot=>.ptr id i off tot
 | .CX t xs i off=>.CX (U.BA t) (xs.map (U.enc t)) i off
 | .fn f a b=>.fn f (BB a) (BB b)
 | .raw v=>v
 | .O3 cs=>.Gf (BB cs)
 | .VI d cs off=>.CX d [.agg cs] 0 off
 | .no=>.no
 | .und=>.und
def BB:List (SV U.Ty)->List V
 | []=>[]
 | x::xs=>AY x::BB xs
end
inductive Nq (Ty:Nat->Type) where
 | var (elem:TypeId) (BA:Nat) (x:SV Ty)
 | row (t:Nat) (xs:List (Ty t)) (fl:Option Nat)
 | dead
 | fvar (elem:TypeId) (BA:Nat) (x:SV Ty)
def Nq.floor {Ty:Nat->Type} (fl:Option Nat):Nat:=fl.getD 0
def DK:Nq U.Ty->Box
 | .var e n x=>CJ false false e n [AY U x]
 | .row t xs fl=>{ live:=true,row:=true,Ey:=false,elem:=t,BA:=U.BA t,xs:=xs.map (U.enc t),floor:=fl.getD 0 }
 | .dead=>SB
 | .fvar e n x=>{ CJ false false e n [AY U x] with floor:=1 }
abbrev BI:=List (Nq U.Ty)
def BP (H:BI U):Heap:=H.map (DK U)
structure Dz where
 s:List (SV U.Ty)
 H:BI U
def DL (st:Dz U):St:=⟨BB U st.s,BP U st.H⟩
inductive Tr (L:Type) where
 | leaf (l:L)
 | br (c:Bool) (a b:Tr L)
 | bind (t:Nat) (o:Option (U.Ty t)) (k:U.Ty t->Tr L)
 | chk (c:Bool) (a:Tr L)
 | fail
variable {U}
def Tr.andThen {L M:Type}:Tr U L->(L->Tr U M)->Tr U M
 | .leaf l,f=>f l
 | .br c a b,f=>.br c (a.andThen f) (b.andThen f)
 | .bind t o k,f=>.bind t o fun x=>(k x).andThen f
 | .chk c a,f=>.chk c (a.andThen f)
 | .fail,_=>.fail
def Tr.map {L M:Type} (g:L->M):Tr U L->Tr U M
 | .leaf l=>.leaf (g l)
 | .br c a b=>.br c (a.map g) (b.map g)
 | .bind t o k=>.bind t o fun x=>(k x).map g
 | .chk c a=>.chk c (a.map g)
 | .fail=>.fail
def Tr.den {L R:Type} (J:L->Option R):Tr U L->Option R
 | .leaf l=>J l
 | .br c a b=>cond c (a.den J) (b.den J)
 | .bind t o k=>o.bind fun x=>(k x).den J
 | .chk c a=>cond c (a.den J) none
 | .fail=>none
def Tr.A7 {L:Type}:Tr U L->L->Prop
 | .leaf l,x=>l=x
 | .br c a b,x=>(c=true/\a.A7 x)\/(c=false/\b.A7 x)
 | .bind t o k,x=>∃a,o=some a/\(k a).A7 x
 | .chk c a,x=>c=true/\a.A7 x
 | .fail,_=>False
def Tr.opt {L:Type}:Option L->Tr U L
 | some l=>.leaf l
 | none=>.fail
def Tr.when {L:Type} (p:Prop) [Decidable p] (a:Tr U L):Tr U L:=if p then a else .fail
variable (U)
def TA:V->SV U.Ty
 | .lit v=>.lit v
 | .sl true e []=>.nil e
 | .no=>.no
 | .und=>.und
 | v=>.raw v
def KD:V->SV U.Ty
 | .agg cs=>.agg (cs.map (TA U))
 | v=>TA U v
variable {U}
def cellsS:SV U.Ty->List (SV U.Ty)
 | .agg cs=>cs
 | v=>[v]
def okS:SV U.Ty->Bool
 | .und | .no | .BK _ | .O3 _ | .VI ..=>false
 | .raw (.agg _)=>false
 | .raw v=>okV v
 | _=>true
def Xd:SV U.Ty->Option Value
 | .lit v=>some v
 | .si k a=>some (.int k a)
 | .sb b=>some (.bool b)
 | .ss s=>some (.string s)
 | _=>none
def asInt:SV U.Ty->Option (IntKind×Int)
 | .lit (.int k a)=>some (k,a)
 | .si k a=>some (k,a)
 | _=>none
def Js:SV U.Ty->Option ByteArray
 | .lit (.string s)=>some s
 | .ss s=>some s
 | _=>none
def asBool:SV U.Ty->Option Bool
 | .lit (.bool b)=>some b
 | .sb b=>some b
 | _=>none
def D6 (E:Env) (s:List (SV U.Ty)):Operand->SV U.Ty
 | .tmp t=>s.getD t .und
 | .const v=>KD U (QW v)
 | .func f=>.fn f [] []
 | .global g=>match E.FM g with|some r=>.raw (.CX r.length [.agg r] 0 0)|none=>.und
def TG (s:List (SV U.Ty)) (d:Option Tmp) (v:SV U.Ty):List (SV U.Ty):=match d with|some t=>s.set t v|none=>s
def PE (H:BI U) (k:Nat) (b:Nq U.Ty):BI U:=if k<H.length then H.set k b else H++[b]
def rowAt {L:Type} (H:BI U) (id tot:Nat) (k:(t:Nat)->List (U.Ty t)->Option Nat->Tr U L):Tr U L:=
 match H[id]? with
 | some (.row t xs fl)=>.chk (xs.length==tot) (k t xs fl)
 | _=>.fail
def OW (H:BI U):SV U.Ty->Tr U (SV U.Ty)
 | .lit v=>.leaf (.lit v)
 | .si k a=>.leaf (.si k a)
 | .sb b=>.leaf (.sb b)
 | .ss s=>.leaf (.ss s)
 | .nil e=>.leaf (.nil e)
 | .sl t xs=>.leaf (.sl t xs)
 | .DT t xs=>.leaf (.sl t xs)
 | .all id n=>rowAt H id n fun t xs _=>.leaf (.sl t xs)
 | .Bl id off len tot=>rowAt H id tot fun t xs _=>.chk (decide (off+len<=tot)) (.leaf (.sl t ((xs.drop off).take len)))
 | .fn f [] []=>.leaf (.fn f [] [])
 | _=>.fail
def Uw (H:BI U):List (SV U.Ty)->Tr U (List (SV U.Ty))
 | []=>.leaf []
 | v::vs=>(OW H v).andThen fun w=>(Uw H vs).andThen fun ws=>.leaf (w::ws)
def Su (H:BI U):SV U.Ty->Tr U (SV U.Ty)
 | .agg cs=>(Uw H cs).andThen fun ws=>.leaf (.agg ws)
 | v=>OW H v
def QV (H:BI U):List (SV U.Ty)->Tr U (List (SV U.Ty))
 | []=>.leaf []
 | v::vs=>(Su H v).andThen fun w=>(QV H vs).andThen fun ws=>.leaf (w::ws)
def PO:SV U.Ty->List Nat
 | .Bl id _ _ _=>[id]
 | .all id _=>[id]
 | .raw v=>Fb v
 | _=>[]
def NZ:SV U.Ty->List Nat
 | .agg cs=>cs.flatMap PO
 | .raw v=>EH v
 | v=>PO v
def wG:Nq U.Ty->Nq U.Ty
 | .row t xs _=>.row t xs (some xs.length)
 | b=>b
def Qi (H:BI U):List Nat->BI U
 | []=>H
 | i::q=>Qi (H.modify i wG) q
def Sm (cs:List (SV U.Ty)) (off n:Nat) (isAgg:Bool):Option (SV U.Ty):=
 if isAgg then (if off+n<=cs.length then some (.agg ((cs.drop off).take n)) else none) else cs[off]?
def SK (e:Nat):List (SV U.Ty)->Option (List (U.Ty e))
 | []=>some []
 | v::vs=>match okS v,U.IP e v,SK e vs with|true,some a,some as=>some (a::as)|_,_,_=>none
def loadT (E:Env) (H:BI U) (t:TypeId) (a:SV U.Ty):Tr U (SV U.Ty):=
 match E.ti t with
 | none=>.fail
 | some i=>
  match a with
  | .CX q xs j off=>.bind q xs[j]? fun x=>.opt (Sm (cellsS (U.encS q x)) off i.size i.isAgg)
  | .ptr id j off tot=>match H[id]? with
   | some (.var _ _ x)=>.when (j=0/\tot=1/\okS x=true) (.opt (Sm (cellsS x) off i.size i.isAgg))
   | some (.row q xs _)=>.chk (xs.length==tot) (.bind q xs[j]? fun x=>.opt (Sm (cellsS (U.encS q x)) off i.size i.isAgg))
   | _=>.fail
  | .raw (.CX _ [.lit z] 0 0)=>.opt (Sm [.lit z] 0 i.size i.isAgg)
  | .raw (.CX _ [.agg cs] 0 off)=>.opt ((partOf cs off i.size i.isAgg).map (KD U))
  | .VI _ cs off=>match SK t (cs.map (TA U)) with
   | some ys=>.when (i.size=1/\i.isAgg=false/\cs.all JM=true) (.bind t ys[off]? fun x=>.leaf (U.encS t x))
   | none=>.fail
  | _=>.fail
def wL (x:SV U.Ty) (off:Nat) (cs:List (SV U.Ty)):Option (SV U.Ty):=
 match x with
 | .agg q=>if off+cs.length<=q.length then some (.agg (q.take off++cs++q.drop (off+cs.length))) else none
 | .raw _=>none
 | _=>match off,cs with|0,[c]=>some c|_,_=>none
def storeT (E:Env) (H:BI U) (t:TypeId) (a v:SV U.Ty):Tr U (BI U):=
 match E.ti t with
 | none=>.fail
 | some i=>
  match a with
  | .ptr id j off tot=>match H[id]? with
   | some (.var e n x)=>.when ((j=0/\tot=1)/\(cellsS v).length=i.size/\okS v=true/\okS x=true)
     (match wL x off (cellsS v) with
      | some q =>.when (okS q = true) (.leaf (H.set id (.var e n q)))
      | none=>.fail)
   | some (.row z xs fl)=>.when ((cellsS v).length=i.size/\okS v=true/\(NZ v).contains id=false)
     (.chk (xs.length==tot&&decide (fl.getD 0<=j)) (.bind z xs[j]? fun x=>(Su H v).andThen fun v' =>
      match wL (U.encS z x) off (cellsS v') with
      | some q =>match U.IP z q with
       | some y=>.when (okS v' = true/\okS q = true) (.leaf ((Qi H (NZ v)).set id (.row z (xs.set j y) fl)))
       | none=>.fail
      | none=>.fail))
   | _=>.fail
  | _=>.fail
end
section
variable {U:DI}
def intT (op:BinOp) (k:IntKind) (a b:Int) (lit:Bool):Tr U (SV U.Ty):=
 match op with
 | .add=>.leaf (.si k (k.wrap (a+b)))
 | .sub=>.leaf (.si k (k.wrap (a - b)))
 | .mul=>.leaf (.si k (k.wrap (a*b)))
 | .quo=>if lit then (if b=0 then .fail else .leaf (.si k (k.wrap (a.tdiv b)))) else .chk (b != 0) (.leaf (.si k (k.wrap (a.tdiv b))))
 | .rem=>if lit then (if b=0 then .fail else .leaf (.si k (a.tmod b))) else .chk (b != 0) (.leaf (.si k (a.tmod b)))
 | .and | .or | .xor | .andNot=>.leaf (.si k (bits op k a b))
 | .eql=>.leaf (.sb (a==b))
 | .neq=>.leaf (.sb (a != b))
 | .lss=>.leaf (.sb (decide (a<b)))
 | .leq=>.leaf (.sb (decide (a<=b)))
 | .gtr=>.leaf (.sb (decide (a>b)))
 | .geq=>.leaf (.sb (decide (a>=b)))
 | _=>.fail
def Zi0 (op:BinOp) (k:IntKind) (a b:Int):Option Int:=
 match op with
 | .shl=>some (k.wrap (a*2 ^ min b.toNat k.bits))
 | .shr=>some (a.fdiv (2 ^ min b.toNat k.bits))
 | _=>none
def xC (op:BinOp) (k:IntKind) (a b:Int) (lit:Bool):Tr U (SV U.Ty):=
 match Zi0 op k a b with
 | none=>.fail
 | some r=>if lit then (if b<0 then .fail else .leaf (.si k r)) else .chk (decide (0<=b)) (.leaf (.si k r))
def strT (op:BinOp) (x y:ByteArray):Tr U (SV U.Ty):=
 match op with
 | .add=>.chk (decide (x.size+y.size<=maxLen)) (.leaf (.ss (x++y)))
 | .eql=>.leaf (.sb (x.toList==y.toList))
 | .neq=>.leaf (.sb !(x.toList==y.toList))
 | .lss=>.leaf (.sb (Op.bytesLess x.toList y.toList))
 | .leq=>.leaf (.sb (Op.bytesLess x.toList y.toList||x.toList==y.toList))
 | .gtr=>.leaf (.sb !(Op.bytesLess x.toList y.toList||x.toList==y.toList))
 | .geq=>.leaf (.sb !(Op.bytesLess x.toList y.toList))
 | _=>.fail
def OH:List FK->List (SV U.Ty)->List (SV U.Ty)->Option Bool
 | [],[],[]=>some true
 | .b::ks,x::xs,y::ys=>match asBool x,asBool y,OH ks xs ys with|some a,some b,some r=>some (a==b&&r)|_,_,_=>none
 | .i k::ks,x::xs,y::ys=>match asInt x,asInt y,OH ks xs ys with
  | some (k1,a),some (k2,b),some r=>if k1=k/\k2=k then some (a==b&&r) else none
  | _,_,_=>none
 | .s::ks,x::xs,y::ys=>match Js x,Js y,OH ks xs ys with|some a,some b,some r=>some (a==b&&r)|_,_,_=>none
 | _,_,_=>none
def isLit:SV U.Ty->Bool | .lit _=>true|_=>false
def Z4P:SV U.Ty->SV U.Ty | .si k a=>.lit (.int k a) | .sb b=>.lit (.bool b)|v=>v
def binT (E:Env) (op:BinOp) (t:TypeId) (x y:SV U.Ty):Tr U (SV U.Ty):=
 match x,y with
 | .agg xs,.agg ys=>match E.flat t with
  | some ks=>match OH ks xs ys with
   | some b=>(match op with | .eql=>.leaf (.sb b) | .neq=>.leaf (.sb !b)|_=>.fail)
   | none=>.fail
  | none=>.fail
 | x,y=>match asInt x,asInt y with
  | some (k,a),some (j,b)=>(match op with
   | .shl=>xC .shl k a b (isLit y)
   | .shr=>xC .shr k a b (isLit y)
   | op=>if k=j then intT op k a b (isLit y) else .fail)
  | _,_=>match Js x,Js y with
   | some a,some b=>strT op a b
   | _,_=>match asBool x,asBool y with
    | some a,some b=>if E.isBool t then (match op with | .eql=>.leaf (.sb (a==b)) | .neq=>.leaf (.sb (!(a==b)))|_=>.fail) else .fail
    | _,_=>.fail
def unT (op:UnOp) (x:SV U.Ty):Tr U (SV U.Ty):=
 match op,asInt x,asBool x with
 | .neg,some (k,n),_=>.leaf (.si k (k.wrap (0 - n)))
 | .xor,some (k,n),_=>.leaf (.si k (bits .xor k (if k.signed then -1 else k.max) n))
 | .not,_,some b=>.leaf (.sb !b)
 | _,_,_=>.fail
def lH (q:Bool) (k:IntKind):Int->List (SV U.Ty)->Option Int
 | a,[]=>some a
 | a,x::z=>match asInt x with
  | some (j,b)=>if k=j then lH q k (if q then (if b>a then b else a) else (if b<a then b else a)) z else none
  | none=>none
def wR (q:Bool):List (SV U.Ty)->Tr U (SV U.Ty)
 | x::z=>match asInt x with
  | some (k,a)=>(match lH q k a z with|some r=>.leaf (.si k r)|none=>.fail)
  | none=>.fail
 | []=>.fail
def SY (cs:List (SV U.Ty)):List (Nat×SV U.Ty)->(Nat->Option (Nat×Nat))->Option (List (SV U.Ty))
 | [],_=>some cs
 | (i,v)::q,place=>
  match place i with
  | none=>none
  | some (off,size)=>if (cellsS v).length==size&&decide (off+size<=cs.length)&&okS v then SY (cs.take off++cellsS v++cs.drop (off+size)) q place else none
def Z4A (E:Env) (t:TypeId) (q:List (Nat×SV U.Ty)):Option (SV U.Ty):=
 match E.ti t with
 | some i=>match i.zero with
  | some z=>
   if okV z then
    match i.ty with
    | .struct fs=>if fs.all fun x=>(E.ti x.2).isSome then (SY (cellsS (KD U z)) q (placesOf E fs)).map .agg else none
    | .array _ e=>match E.ti e with
     | some A=>(SY (cellsS (KD U z)) q (fun i=>some (i*A.size,A.size))).map .agg
     | none=>none
    | _=>none
   else none
  | none=>none
 | none=>none
def Z2g (E:Env) (k:Nat) (H:BI U) (t:TypeId) (n:Nat) (q:List (Nat×SV U.Ty)):Tr U (SV U.Ty×BI U):=
 match E.ti t with
 | some ⟨.slice e,_,_,_⟩=>match E.ti e with
  | some A=>match A.zero with
   | some z=>(QV H (q.map (·.2))).andThen fun vs=>match SK e vs with
    | some ys=>.when ((n*A.size<=16777216/\0<A.size/\z.cells.length=A.size/\okV z=true)/\q.map (·.1)=List.range n/\vs.all (fun v=>(cellsS v).length==A.size)=true/\U.BA e=A.size)
      (.leaf (.all k n,PE (Qi H ((q.map (·.2)).flatMap NZ)) k (.row e ys none)))
    | none=>.fail
   | none=>.fail
  | none=>.fail
 | _=>.fail
def Z2z (E:Env) (s:TypeId) (x:SV U.Ty) (f:Nat):Option (SV U.Ty):=
 match E.ti s with
 | some ⟨.struct fs,_,_,_⟩=>match fs[f]? with
  | some (o,t)=>match E.size t with
   | some sz=>if sz=0 then none else match x with
    | .ptr id j off tot=>some (.ptr id j (off+o) tot)
    | .CX d xs j off=>some (.CX d xs j (off+o))
    | .raw (.CX d xs j off)=>some (.raw (.CX d xs j (off+o)))
    | _=>none
   | none=>none
  | none=>none
 | _=>none
def Z4H (E:Env) (s:TypeId) (x:SV U.Ty) (f:Nat):Option (SV U.Ty):=
 match E.ti s,x with
 | some ⟨.struct fs,_,_,_⟩,.agg cs=>match fs[f]? with
  | some (o,t)=>match E.ti t with|some i=>Sm cs o i.size i.isAgg|none=>none
  | none=>none
 | _,_=>none
def xG (H:BI U) (x:SV U.Ty) (e:Nat):Tr U (List (U.Ty e)):=
 let q (t:Nat) (xs:List (U.Ty t)):Tr U (List (U.Ty e)):=if h:t=e then .leaf (h▸xs) else .fail
 match x with
 | .nil _=>.leaf []
 | .sl t xs=>q t xs
 | .DT t xs=>q t xs
 | .all id n=>rowAt H id n fun t xs _=>q t xs
 | .Bl id off len tot=>rowAt H id tot fun t xs _=>.chk (decide (off+len<=tot)) (q t ((xs.drop off).take len))
 | _=>.fail
def Z4f (E:Env) (k:Nat) (H:BI U) (t u:TypeId) (s x:SV U.Ty):Tr U (SV U.Ty×BI U):=
 match E.ti t with
 | some ⟨.slice e,_,_,_⟩=>match E.ti e with
  | some q=>.when (u=t/\0<q.size/\q.VM=true/\U.BA e=q.size) ((xG H x e).andThen fun ys=>
    match s with
    | .all id n=>rowAt H id n fun z xs fl=>if h:z = e then
      .chk (decide ((n+ys.length)*q.bytes<=lim)&&decide (n+ys.length<=maxLen))
       (.leaf (.all id ((h▸xs:List (U.Ty e))++ys).length,H.set id (.row e ((h▸xs:List (U.Ty e))++ys) fl)))
     else .fail
    | .Bl id off len tot=>rowAt H id tot fun z xs fl=>if h:z = e then
      .chk (decide (off=0)&&(decide (fl.getD 0<=len)&&(decide (len<tot)&&decide (len+ys.length<=tot))))
       (.leaf (.Bl id 0 (len+ys.length) tot,H.set id (.row e ((h▸xs:List (U.Ty e)).take len++ys++(h▸xs:List (U.Ty e)).drop (len+ys.length)) fl)))
     else .fail
    | .nil _=>.chk (decide (ys.length*q.bytes<=lim)&&decide (ys.length<=maxLen)) (.leaf (.all k ys.length,PE H k (.row e ys none)))
    | .DT z xs=>if h:z = e then
      .chk (decide ((xs.length+ys.length)*q.bytes<=lim)&&decide (xs.length+ys.length<=maxLen))
       (.br ys.isEmpty (.leaf (.DT z xs,H)) (.leaf (.all k ((h▸xs:List (U.Ty e))++ys).length,PE H k (.row e ((h▸xs:List (U.Ty e))++ys) none))))
     else .fail
    | _=>.fail)
  | none=>.fail
 | _=>.fail
def Z4V (E:Env) (H:BI U) (t u:TypeId) (d x:SV U.Ty):Tr U (SV U.Ty×BI U):=
 match E.ti t with
 | some ⟨.slice e,_,_,_⟩=>match E.ti e with
  | some q=>.when (U.BA e=q.size) ((xG H x e).andThen fun ys=>
    match d with
    | .all id n=>rowAt H id n fun z xs fl=>if h:z = e then
      .when (fl.getD 0=0) (.leaf (.si .i64 (min ys.length xs.length:Nat),H.set id (.row e (ys.take xs.length++(h▸xs:List (U.Ty e)).drop ys.length) fl)))
     else .fail
    | _=>.fail)
  | none=>.fail
 | _=>.fail
def lenT (x:SV U.Ty):Option Nat:=
 match x with
 | .nil _=>some 0
 | .sl _ xs=>some xs.length
 | .DT _ xs=>some xs.length
 | .lit (.string s)=>some s.size
 | .ss s=>some s.size
 | _=>none
def OU {L:Type} (H:BI U) (x:SV U.Ty) (k:Nat->Tr U L):Tr U L:=
 match x with
 | .all id n=>rowAt H id n fun _ _ _=>k n
 | .Bl id _ len tot=>rowAt H id tot fun _ _ _=>k len
 | x=>match lenT x with|some n=>k n|none=>.fail
def Un (x:SV U.Ty):Bool:=(Js x).isSome
def Z3E (E:Env) (t:TypeId) (x:SV U.Ty):Bool:=
 if Un x then E.isStr t else match E.ti t with|some ⟨.slice _,_,_,_⟩=>true|_=>false
def jF {L:Type} (x:Option (SV U.Ty)) (z q:Nat) (k:Nat->Tr U L):Tr U L:=
 match x with
 | none=>k q
 | some v=>match asInt v with
  | some (_,n)=>.chk (decide (0<=n/\n<=z)) (k n.toNat)
  | none=>.fail
def Z4t (E:Env) (H:BI U) (x:SV U.Ty) (n:Nat):Bool:=
 match x with
 | .nil _=>true
 | .sl t _=>U.BA t==n
 | .DT t _=>U.BA t==n
 | .all id _ | .Bl id _ _ _=>match H[id]? with|some (.row t _ _)=>U.BA t==n|_=>false
 | _=>false
def Z2H (E:Env) (H:BI U) (t:TypeId) (x:SV U.Ty):Bool:=
 if Un x then E.isStr t else match E.ti t with
  | some ⟨.slice e,_,_,_⟩=>match E.ti e with|some q=>Z4t E H x q.size|none=>false
  | _=>false
def sliceT (E:Env) (H:BI U) (t:TypeId) (x:SV U.Ty) (z q A:Option (SV U.Ty)):Tr U (SV U.Ty×BI U):=
 if Z2H E H t x then
  OU H x fun n=>jF q n n fun h=>jF z h 0 fun l=>
   match A with
   | some m=>(match q with
    | none=>.fail
    | some _=>jF (some m) n n fun k=>.chk (k==h)
     (match x with
      | .sl e xs=>.leaf (.DT e ((xs.drop l).take (h - l)),H)
      | .DT e xs=>.leaf (.DT e ((xs.drop l).take (h - l)),H)
      | .all id n=>rowAt H id n fun e xs _=>.leaf (.DT e ((xs.drop l).take (h - l)),Qi H [id])
      | _=>.fail))
   | none=>match x with
    | .nil e=>.leaf (.nil e,H)
    | .sl e xs=>.leaf (.sl e ((xs.drop l).take (h - l)),H)
    | .DT e xs=>.leaf (.sl e ((xs.drop l).take (h - l)),H)
    | .all id n=>(match z,q with
     | none,none=>.leaf (.all id n,H)
     | _,_=>.leaf (.Bl id l (h - l) n,H))
    | .Bl id off _ tot=>.leaf (.Bl id (off+l) (h - l) tot,H)
    | x=>match Js x with
     | some s=>.leaf (.ss (s.extract l h),H)
     | none=>.fail
 else .fail
def Z3a (x:Option (SV U.Ty)) (n:Nat):Option Nat:=match x with
 | none=>some n
 | some (.lit (.int _ h))=>if 0<=h/\h<=n then some h.toNat else none
 | _=>none
def Z3R (E:Env) (H:BI U) (n e:Nat) (x:SV U.Ty) (A z C:Option (SV U.Ty)):Tr U (SV U.Ty×BI U):=
 match x,A,Z3a z n,C with
 | .ptr id i off tot,none,some m,none=>match H[id]? with
  | some (.var q k (.agg cs))=>match SK e cs with
   | some ys=>.when ((i=0/\off=0/\tot=1/\cs.length=n/\n<=maxLen)/\E.size e=some 1/\U.BA e=1/\cs.all (fun c=>(Xd c).isSome)=true) (.leaf (.sl e (ys.take m),H.set id (.fvar q k (.agg cs))))
   | none=>.fail
  | _=>.fail
 | _,_,_,_=>.fail
def yN {L:Type} {t:Nat} (xs:List (U.Ty t)):Nat->Nat->(List Value->Tr U L)->Tr U L
 | _,0,k=>k []
 | i,n+1,k=>.bind t xs[i]? fun x=>match Xd (U.encS t x) with|some v=>yN xs (i+1) n fun vs=>k (v::vs)|none=>.fail
def arrT (E:Env) (t:TypeId) (x:SV U.Ty):Tr U (SV U.Ty):=
 match E.ti t,x with
 | some ⟨.array n e,_,_,_⟩,.sl q xs=>.when (E.size e=some 1/\U.BA q = 1/\0<n) (yN xs 0 n fun vs=>.leaf (.raw (.CX n [.agg (vs.map .lit)] 0 0)))
 | _,_=>.fail
def Ub {L:Type} (n:Int) (lit:Bool) (len:Nat) (k:Nat->Tr U L):Tr U L:=
 if lit then (if 0<=n/\n<len then k n.toNat else .fail)
 else (List.range len).foldr (fun(i:Nat) q=>.br (n==(i:Int)) (k i) q) .fail
def Z2F (E:Env) (H:BI U) (t:TypeId) (x i:SV U.Ty):Tr U (SV U.Ty):=
 match asInt i,E.ti t with
 | some (_,n),some ti=>
  match ti.ty with
  | .slice z=>(match x with
   | .sl q xs=>.when (E.size z=some (U.BA q)) (.chk (decide (0<=n/\n<xs.length)) (.leaf (.CX q xs n.toNat 0)))
   | .DT q xs=>.when (E.size z=some (U.BA q)) (.chk (decide (0<=n/\n<xs.length)) (.leaf (.CX q xs n.toNat 0)))
   | .all id m=>rowAt H id m fun q xs _=>.when (E.size z=some (U.BA q)) (.chk (decide (0<=n/\n<m)) (.leaf (.ptr id n.toNat 0 m)))
   | .Bl id off len tot=>rowAt H id tot fun q xs _=>.when (E.size z=some (U.BA q)) (.chk (decide (0<=n/\n<len)) (.leaf (.ptr id (off+n.toNat) 0 tot)))
   | _=>.fail)
  | .array len e=>(match E.size e with
   | none=>.fail
   | some sz=>match x with
    | .ptr id j off tot=>Ub n (isLit i) len fun m=>.leaf (.ptr id j (off+m*sz) tot)
    | .CX d xs j off=>Ub n (isLit i) len fun m=>.leaf (.CX d xs j (off+m*sz))
    | .raw (.CX d [.agg cs] 0 0)=>if (decide (sz=1)&&(cs.all JM && !isLit i))=true then .chk (decide (0<=n/\n<len)) (.leaf (.VI d cs n.toNat))
     else Ub n (isLit i) len fun m=>.leaf (.raw (.CX d [.agg cs] 0 (0+m*sz)))
    | .raw (.CX d xs j off)=>Ub n (isLit i) len fun m=>.leaf (.raw (.CX d xs j (off+m*sz)))
    | _=>.fail)
  | _=>.fail
 | _,_=>.fail
def Z4p (E:Env) (t:TypeId) (x i:SV U.Ty):Tr U (SV U.Ty):=
 match asInt i with
 | some (_,n)=>
  match E.ti t,x with
  | some ⟨.array len e,_,_,_⟩,.agg cs=>match E.ti e with
   | some q=>Ub n (isLit i) len fun m=>.opt (Sm cs (m*q.size) q.size q.isAgg)
   | none=>.fail
  | some ⟨.scalar,_,_,_⟩,x=>match Js x with
   | some s=>if E.isStr t then .chk (decide (0<=n/\n<s.size)) (.leaf (.si .u8 (s.get! n.toNat).toNat)) else .fail
   | none=>.fail
  | _,_=>.fail
 | none=>.fail
def NG (U:DI) (t:Nat) (xs:List (U.Ty t)):Bool:=match bytesOf (xs.map (U.enc t)) with|some q=>decide (q.length<=maxLen)|none=>false
def strOf (U:DI) (t:Nat) (xs:List (U.Ty t)):ByteArray:=⟨((bytesOf (xs.map (U.enc t))).getD []).toArray⟩
def X0 (t:Nat) (xs:List (U.Ty t)):Tr U (SV U.Ty):=.when (U.BA t=1) (.chk (NG U t xs) (.leaf (.ss (strOf U t xs))))
def Z4h (E:Env) (H:BI U) (q dst:TypeId) (x:SV U.Ty):Tr U (SV U.Ty):=
 .when ((E.isStr dst&&E.isBytes q)=true) (match x with
  | .nil _=>.leaf (.ss ⟨#[]⟩)
  | .sl t xs=>X0 t xs
  | .DT t xs=>X0 t xs
  | .all id n=>rowAt H id n fun t xs _=>X0 t xs
  | .Bl id off len tot=>rowAt H id tot fun t xs _=>.chk (decide (off+len<=tot)) (X0 t ((xs.drop off).take len))
  | _=>.fail)
def Z4Z (E:Env) (H:BI U) (q dst:TypeId) (x:SV U.Ty):Tr U (SV U.Ty):=
 match asInt x with
 | some (_,n)=>(match E.kind dst with
  | some k=>if (E.ti q).isSome then .leaf (.si k (k.wrap n)) else .fail
  | none=>.fail)
 | none=>match Js x with
  | some s=>if E.isStr q&&E.isStr dst then .leaf (.ss s) else .fail
  | none=>Z4h E H q dst x
def X6 (U:DI) (e:Nat) (st:ByteArray):Bool:=st.data.toList.all fun b=>(U.IP e (.si .u8 b.toNat)).isSome
def KL (U:DI) (e:Nat) (st:ByteArray):List (U.Ty e):=st.data.toList.filterMap fun b=>U.IP e (.si .u8 b.toNat)
def Z4B (E:Env) (k:Nat) (H:BI U) (dst:TypeId) (x:SV U.Ty):Tr U (SV U.Ty×BI U):=
 match Js x,E.ti dst with
 | some st,some ⟨.slice e,_,_,_⟩=>.when (E.size e=some 1/\U.BA e=1) (.chk (X6 U e st) (.leaf (.all k (KL U e st).length,PE H k (.row e (KL U e st) none))))
 | _,_=>.fail
abbrev Ip (U:DI):=FuncId->List (SV U.Ty)->BI U->Tr U (SV U.Ty×BI U)
def yC (x:SV U.Ty):Option (Int×Bool):=match x with | .lit (.int _ n)=>some (n,true) | .si _ n=>some (n,false)|_=>none
def Jf (H:BI U) (T:Tr U (SV U.Ty)):Tr U (SV U.Ty×BI U):=T.andThen fun v=>.leaf (v,H)
def Z53 (E:Env) (M:Ip U) (k:Nat) (H:BI U) (s:List (SV U.Ty)) (c:Call):Tr U (SV U.Ty×BI U):=
 match c.callee with
 | .builtin b=>(match b,c.args.toList.map (D6 E s),c.argTypes.toList with
  | .len,[x],[t]=>if Z3E E t x then OU H x fun n=>.leaf (.si .i64 n,H) else .fail
  | .append,[a,x],[t,u]=>Z4f E k H t u a x
  | .copy,[d,x],[t,u]=>Z4V E H t u d x
  | .min,args,_=>Jf H (wR false args)
  | .max,args,_=>Jf H (wR true args)
  | _,_,_=>.fail)
 | .value f=>(match D6 E s f with
  | .fn g first caps=>M g (first++c.args.toList.map (D6 E s)++caps) H
  | _=>.fail)
 | _=>.fail
def Qm {L:Type} (kd:IntKind) (n:Int) (lit:Bool) (z:Tr U L) (f:SV U.Ty->Tr U L):List (SV U.Ty)->Tr U L
 | []=>z
 | .lit (.int k a)::v::r=>.when (k=kd) (if lit then (if n=a then f v else Qm kd n lit z f r) else .br (n==a) (f v) (Qm kd n lit z f r))
 | _=>.fail
def Z4Y (E:Env) (t:TypeId) (ok:Bool) (m x:SV U.Ty):Tr U (SV U.Ty):=
 match E.ti t,m,asInt x with
 | some ⟨.map k e,_,_,_⟩,.O3 kvs,some (kd,n)=>.when (E.kind k=some kd)
  (Qm kd n (isLit x) (match E.ti e with|some q=>(match q.zero with|some z=>.leaf (if ok then .BK [KD U z,.lit (.bool false)] else KD U z)|none=>.fail)|none=>.fail)
   (fun v=>.leaf (if ok then .BK [v,.lit (.bool true)] else v)) kvs)
 | _,_,_=>.fail
def lF (E:Env) (M:Ip U) (k:Nat) (H:BI U) (s:List (SV U.Ty)) (o:Oper):Tr U (SV U.Ty×BI U):=
 match o.op with
 | .move x=>.leaf (D6 E s x,H)
 | .assign (.const (.slice none 0 0))=>match E.ti o.type with
  | some ⟨.slice e,_,_,_⟩=>.when (U.BA e=(E.size e).getD 0) (.leaf (.all k 0,PE H k (.row e [] none)))
  | _=>.fail
 | .assign x=>.leaf (D6 E s x,H)
 | .pick c a b=>(match D6 E s c with
  | .lit (.bool true)=>.leaf (D6 E s a,H)
  | .lit (.bool false)=>.leaf (D6 E s b,H)
  | .sb t=>(match asBool (D6 E s a),asBool (D6 E s b) with
   | some x,some y=>.leaf (.sb (cond t x y),H)
   | _,_=>.br t (.leaf (D6 E s a,H)) (.leaf (D6 E s b,H)))
  | _=>.fail)
 | .alloc t=>match E.ti t with
  | some i=>match i.zero with|some z=>.when (z.cells.length=i.size/\okV z=true) (.leaf (.ptr k 0 0 1,PE H k (.var t i.size (KD U z))))|none=>.fail
  | none=>.fail
 | .box t x=>match E.ti t with
  | some i=>.when ((cellsS (D6 E s x)).length=i.size/\okS (D6 E s x)=true) (.leaf (.ptr k 0 0 1,PE H k (.var t i.size (D6 E s x))))
  | none=>.fail
 | .build t q=>Jf H (.opt (Z4A E t (q.toList.map fun(i,x)=>(i,D6 E s x))))
 | .buildSlice t n q=>Z2g E k H t n (q.toList.map fun(i,x)=>(i,D6 E s x))
 | .load t a=>Jf H (loadT E H t (D6 E s a))
 | .store t a v=>(storeT E H t (D6 E s a) (D6 E s v)).andThen fun H' =>.leaf (.no,H')
 | .nilCheck x=>(match D6 E s x with
  | .ptr a b c d=>.leaf (.ptr a b c d,H)
  | .CX a b c d=>.leaf (.CX a b c d,H)
  | .raw (.CX a b c d)=>.leaf (.raw (.CX a b c d),H)
  | .fn a b c=>.leaf (.fn a b c,H)
  | _=>.fail)
 | .binOp op t x y _=>Jf H ((binT E op t (D6 E s x) (D6 E s y)).andThen fun v=>.leaf (if isLit (D6 E s x)&&isLit (D6 E s y) then Z4P v else v))
 | .unOp op _ x=>Jf H (unT op (D6 E s x))
 | .convert C dst x=>if E.isStr C&&E.isBytes dst then Z4B E k H dst (D6 E s x) else Jf H (Z4Z E H C dst (D6 E s x))
 | .makeSlice t l c=>match E.ti t with
  | some ⟨.slice e,_,_,_⟩=>(match yC (D6 E s l),yC (D6 E s c),E.ti e with
   | some (n,_),some (m,_),some A=>(match A.zero with
    | some z=>(match U.IP e (KD U z) with
     | some y=>.when (0<A.size/\z.cells.length=A.size/\okV z=true/\U.BA e=A.size)
       (.chk (decide (0<=n/\n<=m/\m.toNat*A.bytes<=lim/\m<=maxLen)) (.leaf (.all k (List.replicate n.toNat y).length,PE H k (.row e (List.replicate n.toNat y) none))))
     | none=>.fail)
    | none=>.fail)
   | _,_,_=>.fail)
  | _=>.fail
 | .slice t x F D G=>match E.ti t with
  | some ⟨.array n e,_,_,_⟩=>Z3R E H n e (D6 E s x) (F.map (D6 E s)) (D.map (D6 E s)) (G.map (D6 E s))
  | _=>sliceT E H t (D6 E s x) (F.map (D6 E s)) (D.map (D6 E s)) (G.map (D6 E s))
 | .sliceToArrayPointer t x=>Jf H (arrT E t (D6 E s x))
 | .fieldAddr t x f=>Jf H (.opt (Z2z E t (D6 E s x) f))
 | .field t x f=>Jf H (.opt (Z4H E t (D6 E s x) f))
 | .indexAddr t x i=>Jf H (Z2F E H t (D6 E s x) (D6 E s i))
 | .index t x i=>Jf H (Z4p E t (D6 E s x) (D6 E s i))
 | .extract x i=>(match D6 E s x with | .BK vs=>Jf H (.opt vs[i]?)|_=>.fail)
 | .lookup t m x ok=>Jf H (Z4Y E t ok (D6 E s m) (D6 E s x))
 | .makeFunc (.func f) first caps=>.leaf (.fn f (first.toList.map (D6 E s)) (caps.toList.map (D6 E s)),H)
 | .call c=>Z53 E M k H s c
 | _=>.fail
def stepT (E:Env) (M:Ip U) (ops:Array Oper) (k i:Nat) (st:Dz U):Tr U (Dz U):=
 match ops[i]? with
 | none=>.leaf st
 | some o=>
  let run (st:Dz U):Tr U (Dz U):=(lF E M k st.H st.s o).andThen fun r=>.leaf ⟨TG st.s o.dst r.1,r.2⟩;let skip (st:Dz U):Tr U (Dz U):=.leaf ⟨TG st.s o.dst .no,st.H⟩
  match o.guard with
  | none=>run st
  | some (j,q)=>
   match (ops[j]?).bind (·.dst) with
   | none=>.fail
   | some d=>(match st.s.getD d .und with
    | .no=>skip st
    | .lit (.bool true)=>if q then run st else skip st
    | .lit (.bool false)=>if q then skip st else run st
    | .sb b=>.br b (if q then run ⟨st.s.set d (.lit (.bool true)),st.H⟩ else skip ⟨st.s.set d (.lit (.bool true)),st.H⟩)
      (if q then skip ⟨st.s.set d (.lit (.bool false)),st.H⟩ else run ⟨st.s.set d (.lit (.bool false)),st.H⟩)
    | _=>.fail)
def opsT (E:Env) (M:Ip U) (ops:Array Oper):List Nat->Dz U->Tr U (Dz U)
 | [],st=>.leaf st
 | i::q,st=>(stepT E M ops st.H.length i st).andThen (opsT E M ops q)
def Si:SV U.Ty->List Nat
 | .Bl id _ _ _=>[id]
 | .all id _=>[id]
 | .ptr id _ _ _=>[id]
 | .raw v=>Ec v
 | _=>[]
def Z4m:SV U.Ty->List Nat
 | .agg cs=>cs.flatMap Si
 | .raw v=>jX v
 | v=>Si v
def jT:SV U.Ty->List Nat
 | .agg cs=>cs.flatMap Si
 | .fn _ a b=>(a++b).flatMap Z4m
 | .raw v=>D5 v
 | v=>Si v
def Zi5:SV U.Ty->Bool | .fn _ _ _=>true | .raw v=>yM v|_=>false
def Z4y (E:Env):SV U.Ty->Bool
 | .fn g a b=>Xg E g&&(a++b).all (fun v=>!Zi5 v)
 | _=>false
def Z4u (E:Env) (s:List (SV U.Ty)) (o:Oper):Bool:=
 match o.op with
 | .call c=>(match c.callee with
  | .value (.tmp t)=>!(E.quiet&&o.type != 0)||Z4y E (s.getD t .und)
  | _=>true)
 | _=>true
def jL (E:Env) (s:List (SV U.Ty)) (o:Oper):List Nat:=o.op.operands.toList.flatMap fun x=>jT (D6 E s x)
def ZhV:Nq U.Ty->Bool | .dead=>true|_=>false
def Z49 (E:Env) (s:List (SV U.Ty)) (o:Oper):SV U.Ty:=match QT o with|some a=>D6 E s a|_=>.no
def Z44 (H:BI U) (a:SV U.Ty) (k:Nat):Bool:=match a with
 | .ptr id _ _ tot=>id==k&&(match H[id]? with|some (.var _ _ _)=>tot==1|_=>false)
 | .all id _=>id==k&&(match H[id]? with|some (.row _ _ _)=>true|_=>false)
 | _=>false
def wV (base:Nat) (s0:List (SV U.Ty)):Nat⊕Nat->Option Nat
 | .inl j=>some (base+j)
 | .inr d=>match s0.getD d .und with | .ptr id _ _ _=>some id | .all id _=>some id|_=>none
def Z4M (E:Env) (ms:List Nat) (lt:List (Nat×(Nat⊕Nat))) (s0:List (SV U.Ty)) (base i:Nat) (s:List (SV U.Ty)) (H:BI U) (o:Oper):Bool:=
 lt.all fun p=>match wV base s0 p.2 with
  | none=>false
  | some k=>if p.1=i then Z44 H (Z49 E s o) k else !needs E o||(linked ms p.1 i || !(jL E s o).contains k)
def Z4g (E:Env) (M:Ip U) (ops:Array Oper) (ms:List Nat) (lt:List (Nat×(Nat⊕Nat))) (s0:List (SV U.Ty)) (base m i:Nat) (st:Dz U):Tr U (Dz U):=
 match ops[i]? with
 | none=>.leaf st
 | some o=>
  .when ((jL E st.s o).all (fun id=>decide (id<base)||(decide (base+m<=id)&&XL E ops ms i)||(decide (id<base+m)&&(ms.getD i 0).testBit (id - base)))=true) (.when ((Z4u E st.s o&&Z4M E ms lt s0 base i st.s st.H o&&(!decide (CS E o = .c)||decide (base+m<=st.H.length)))=true)
   (if CS E o = .a then
    match st.H[base+i]? with
    | some b=>if ZhV b then stepT E M ops (base+i) i st else .fail
    | none=>.fail
    else stepT E M ops st.H.length i st))
def jA (E:Env) (M:Ip U) (ops:Array Oper) (ms:List Nat) (lt:List (Nat×(Nat⊕Nat))) (s0:List (SV U.Ty)) (base m:Nat):List Nat->Dz U->Tr U (Dz U)
 | [],st=>.leaf st
 | i::q,st=>(Z4g E M ops ms lt s0 base m i st).andThen (jA E M ops ms lt s0 base m q)
def yK (E:Env) (M:Ip U) (ops:Array Oper) (st:Dz U):Tr U (Dz U):=
 let m:=if ops.any (fun o=>decide (CS E o = .a)) then ops.size else 0
 jA E M ops (Gj [] ops.toList) (Qh E ops) st.s st.H.length m (List.range ops.size) ⟨st.s,st.H++List.replicate m .dead⟩
end
structure Dw (U:DI) (E:Env):Prop where
 encS:∀t a,AY U (U.encS t a)=U.enc t a
 dec:∀t v a,U.IP t v=some a->EU (E.rows t) (AY U v)=U.enc t a
 cells:∀t a,(U.enc t a).cells=BB U (cellsS (U.encS t a))
 nr:∀t a,DF (U.enc t a)=true
 inj:∀t∈U.keys,∀a b,U.enc t a=U.enc t b->a=b
section
variable {U:DI}
theorem FU (xs:List (SV U.Ty)):BB U xs=xs.map (AY U):=by
 induction xs with
 | nil=>rfl
 | cons x xs q=>simp[BB,q]
theorem WW (s:List (SV U.Ty)) (t:Nat):(BB U s).getD t .und=AY U (s.getD t .und):=by
 rw[FU];simp only[List.getD,List.getElem?_map];cases s[t]?<;>rfl
theorem Z3D (v:V):AY U (TA U v)=v:=by
 unfold TA;split<;>rfl
theorem XC (v:V):AY U (KD U v)=v:=by
 unfold KD;split
 ·rename_i cs;simp only[AY,FU,List.map_map,V.agg.injEq]
  conv=>rhs;rw[<- List.map_id cs]
  apply List.map_congr_left;intro x _;exact Z3D x
 ·exact Z3D _
theorem Gl (E:Env) (s:List (SV U.Ty)) (x:Operand):ev E (BB U s) x=AY U (D6 E s x):=by
 cases x with
 | tmp t=>exact WW s t
 | const v=>simp only[ev,D6,XC]
 | func f=>rfl
 | global g=>simp only[ev,D6];cases E.FM g<;>rfl
theorem ZgW (E:Env) (s:List (SV U.Ty)) (xs:List Operand):xs.map (ev E (BB U s))=BB U (xs.map (D6 E s)):=by
 rw[FU (xs.map (D6 E s)),List.map_map];apply List.map_congr_left;intro x _;exact Gl E s x
theorem Zh4 (s:List (SV U.Ty)) (d:Option Tmp) (v:SV U.Ty):BB U (TG s d v)=setSlot (BB U s) d (AY U v):=by
 unfold TG setSlot;cases d with
 | none=>rfl
 | some t=>simp only[FU,List.map_set]
theorem UY (H:BI U):(BP U H).length=H.length:=by simp[BP]
theorem NH (H:BI U) (i:Nat):(BP U H)[i]? = (H[i]?).map (DK U):=by simp[BP]
theorem Q3 (H:BI U) (i:Nat) (b:Nq U.Ty):BP U (H.set i b)=(BP U H).set i (DK U b):=by simp[BP,List.map_set]
theorem Rt (H:BI U) (k:Nat) (b:Nq U.Ty):BP U (PE H k b)=place (BP U H) k (DK U b):=by
 unfold PE place;rw[UY];split
 ·exact Q3 H k b
 ·simp[BP]
theorem QU {x:SV U.Ty} (h:okS x=true):okV (AY U x)=true:=by
 cases x<;>simp_all [okS,AY,okV]
 grind
theorem U4 {x:SV U.Ty} (h:okS x=true):(AY U x).cells=BB U (cellsS x):=by
 cases x<;>simp_all [okS,AY,V.cells,cellsS,BB]
 grind
theorem Eg {L M:Type} (T:Tr U L) (f:L->Tr U M) (y:M):(T.andThen f).A7 y↔∃x,T.A7 x/\(f x).A7 y:=by
 induction T with
 | leaf l=>simp[Tr.andThen,Tr.A7]
 | br c a b z A=>
  simp only[Tr.andThen,Tr.A7,z,A]
  grind
 | bind t o k q=>
  simp only[Tr.andThen,Tr.A7,q]
  grind
 | chk c a q=>
  simp only[Tr.andThen,Tr.A7,q]
  grind
 | fail=>simp[Tr.andThen,Tr.A7]
theorem Ol {L:Type} {o:Option L} {x:L}:(Tr.opt (U:=U) o).A7 x↔o=some x:=by
 cases o<;>simp[Tr.opt,Tr.A7]
theorem Es {L:Type} {p:Prop} [Decidable p] {a:Tr U L} {x:L}:(Tr.when p a).A7 x↔p/\a.A7 x:=by
 unfold Tr.when;split<;>simp_all [Tr.A7]
theorem IW {L:Type} {H:BI U} {id tot:Nat} {k:(t:Nat)->List (U.Ty t)->Option Nat->Tr U L} {y:L} (h:(rowAt H id tot k).A7 y) :
  ∃t xs fl,H[id]? = some (.row t xs fl)/\xs.length=tot/\(k t xs fl).A7 y/\Dt (BP U H) id tot=some (DK U (.row t xs fl)):=by
 unfold rowAt at h;split at h
 ·rename_i t xs fl hb;simp only[Tr.A7,beq_iff_eq]at h;refine⟨t,xs,fl,hb,h.1,h.2,?_⟩;unfold Dt;rw[NH,hb];simp[DK,h.1]
 ·simp[Tr.A7]at h
theorem Z3x {H:BI U} {x y:SV U.Ty} (h:(OW H x).A7 y):Ia (BP U H) (AY U x)=some (AY U y):=by
 unfold OW at h;split at h<;>(try (simp only[Tr.A7]at h;subst h;rfl))
 ·obtain⟨t,xs,fl,C,A,q,z⟩:=IW h;simp only[Tr.A7]at q;subst q;subst A;simp only[AY,Ia,z];simp only[DK,Nat.zero_add,Nat.le_refl,decide_true,Bool.and_self,if_true,List.drop_zero,Option.some.injEq,V.sl.injEq,true_and];exact List.take_of_length_le (by simp)
 ·obtain⟨t,xs,fl,C,A,q,z⟩:=IW h;simp only[Tr.A7,decide_eq_true_eq]at q;obtain⟨q,rfl⟩:=q;simp only[AY,Ia,z];simp[DK,q,List.map_take,List.map_drop]
 ·simp[Tr.A7]at h
theorem ZCG {H:BI U}:∀{xs ys:List (SV U.Ty)},(Uw H xs).A7 ys->Jw (BP U H) (BB U xs)=some (BB U ys):=by
 intro xs;induction xs with
 | nil=>intro ys h;simp only[Uw,Tr.A7]at h;subst h;rfl
 | cons x xs A=>
  intro ys h;simp only[Uw,Eg,Tr.A7]at h;obtain⟨w,q,ws,z,rfl⟩:=h;simp only[BB,Jw,Z3x q,A z]
theorem wE {H:BI U} {x y:SV U.Ty} (h:(Su H x).A7 y):Ie (BP U H) (AY U x)=some (AY U y):=by
 unfold Su at h;split at h
 ·rename_i cs;simp only[Eg,Tr.A7]at h;obtain⟨ws,q,rfl⟩:=h;simp only[AY,Ie,ZCG q,Option.map_some]
 ·rename_i A;have:=Z3x h;unfold Ie;split
  ·rename_i cs z;exfalso;cases x<;>simp_all [AY,OW,Tr.A7]
  ·exact this
theorem Z2o {H:BI U}:∀{xs ys:List (SV U.Ty)},(QV H xs).A7 ys->Fp (BP U H) (BB U xs)=some (BB U ys):=by
 intro xs;induction xs with
 | nil=>intro ys h;simp only[QV,Tr.A7]at h;subst h;rfl
 | cons x xs A=>
  intro ys h;simp only[QV,Eg,Tr.A7]at h;obtain⟨w,q,ws,z,rfl⟩:=h;simp only[BB,Fp,wE q,A z]
theorem Zga (x:SV U.Ty):Fb (AY U x)=PO x:=by
 cases x<;>simp[AY,Fb,PO]
theorem Z3L (x:SV U.Ty):EH (AY U x)=NZ x:=by
 cases x<;>simp[AY,EH,NZ,PO,Fb];rename_i cs;rw[FU,List.flatMap_map];simp[Zga]
theorem Z2X (xs:List (SV U.Ty)):(BB U xs).flatMap EH=xs.flatMap NZ:=by
 rw[FU,List.flatMap_map];simp[Z3L]
theorem Zgj (x:SV U.Ty):Ec (AY U x)=Si x:=by
 cases x<;>simp[AY,Ec,Si]
theorem ZBJ (x:SV U.Ty):jX (AY U x)=Z4m x:=by
 cases x<;>simp[AY,jX,Z4m,Si,Ec];rename_i cs;rw[FU,List.flatMap_map];simp[Zgj]
theorem ZCd (x:SV U.Ty):D5 (AY U x)=jT x:=by
 cases x with
 | agg cs=>
  simp only[AY,D5,jT];rw[FU,List.flatMap_map];simp[Zgj]
 | fn f a b=>
  simp only[AY,D5,jT];rw[FU,FU,<- List.map_append,List.flatMap_map];simp[ZBJ]
 | _=>simp[AY,D5,jT,Si,Ec]
theorem Wu (H:BI U):∀(ids:List Nat),(∀i∈ids,∃t xs fl,H[i]? = some (.row t xs fl))->BP U (Qi H ids)=bump (BP U H) ids:=by
 intro ids;induction ids generalizing H with
 | nil=>intro _;rfl
 | cons i D C=>
  intro h;simp only[Qi,bump];have z:BP U (H.modify i wG)=(BP U H).modify i fun b=>{ b with floor:=b.xs.length }:=by
   apply List.ext_getElem?;intro j;simp only[BP,List.getElem?_map,List.getElem?_modify]
   by_cases q:i=j
   ·subst q;obtain⟨t,xs,fl,hb⟩:=h i (by simp);simp[hb,wG,DK]
   ·simp[q]
  rw[C,z];intro j A;obtain⟨t,xs,fl,hb⟩:=h j (by simp[A])
  by_cases q:i=j
  ·subst q;exact⟨t,xs,some xs.length,by simp[List.getElem?_modify,hb,wG]⟩
  simp_all
theorem Z2q {H:BI U} {x y:SV U.Ty} (h:(OW H x).A7 y):∀i∈PO x,∃t xs fl,H[i]? = some (.row t xs fl):=by
 intro i z;unfold OW at h;split at h<;>(try (simp[PO]at z))
 ·obtain⟨t,xs,fl,q,_⟩:=IW h
  simp_all
 ·obtain⟨t,xs,fl,q,_⟩:=IW h
  simp_all
 ·simp[Tr.A7]at h
theorem Zxx {H:BI U}:∀{xs ys:List (SV U.Ty)},(Uw H xs).A7 ys->∀i∈xs.flatMap PO,∃t xs fl,H[i]? = some (.row t xs fl):=by
 intro xs;induction xs with
 | nil=>simp_all
 | cons x xs A=>
  intro ys h i hi;simp only[Uw,Eg,Tr.A7]at h;obtain⟨w,q,ws,z,rfl⟩:=h;simp only[List.flatMap_cons,List.mem_append]at hi;rcases hi with hi|hi
  ·exact Z2q q i hi
  ·exact A z i hi
theorem ZfO {H:BI U} {x y:SV U.Ty} (h:(Su H x).A7 y):∀i∈NZ x,∃t xs fl,H[i]? = some (.row t xs fl):=by
 unfold Su at h;split at h
 ·simp only[Eg,Tr.A7]at h;obtain⟨ws,q,rfl⟩:=h;exact Zxx q
 ·rename_i z;intro i A;refine Z2q h i ?_;cases x<;>simp_all [NZ,PO];simp[OW,Tr.A7]at h
theorem ZbV {H:BI U}:∀{xs ys:List (SV U.Ty)},(QV H xs).A7 ys->∀i∈xs.flatMap NZ,∃t xs fl,H[i]? = some (.row t xs fl):=by
 intro xs;induction xs with
 | nil=>simp_all
 | cons x xs A=>
  intro ys h i hi;simp only[QV,Eg,Tr.A7]at h;obtain⟨w,q,ws,z,rfl⟩:=h;simp only[List.flatMap_cons,List.mem_append]at hi;rcases hi with hi|hi
  ·exact ZfO q i hi
  ·exact A z i hi
theorem Wy (cs:List (SV U.Ty)) (off n:Nat) (b:Bool):partOf (BB U cs) off n b=(Sm cs off n b).map (AY U):=by
 unfold partOf Sm;simp only[FU,List.length_map];split
 ·split
  ·simp[AY,FU,List.map_take,List.map_drop]
  ·rfl
 ·simp
theorem JY (cs:List (SV U.Ty)):(BB U cs).length=cs.length:=by simp[FU]
theorem ZdK {x:SV U.Ty} {off:Nat} {cs:List (SV U.Ty)} {y:SV U.Ty} (h:wL x off cs=some y):NK (AY U x) off (BB U cs)=some (AY U y):=by
 unfold wL at h;split at h
 ·rename_i ds;split at h
  ·rename_i q;simp only[Option.some.injEq]at h;subst h;simp only[AY,NK,JY,q,if_true];simp[FU,List.map_take,List.map_drop]
  ·cases h
 ·cases h
 ·rename_i A C;split at h
  ·rename_i c;simp only[Option.some.injEq]at h;subst h;have:∀ds,AY U x≠.agg ds:=by
    intro ds z;cases x<;>simp_all [AY]
   unfold NK;split
   ·simp_all
   ·simp[BB]
  ·cases h
theorem Z3p {H:BI U} {id:Nat} {e n:Nat} {x:SV U.Ty} (h:H[id]? = some (.var e n x)):Dt (BP U H) id 1=some (CJ false false e n [AY U x]):=by
 unfold Dt;rw[NH,h];simp[DK,CJ]
theorem ZfU {H:BI U} {id tot:Nat} {t:Nat} {xs:List (U.Ty t)} {fl:Option Nat} (h:H[id]? = some (.row t xs fl)) (hl:xs.length=tot):Dt (BP U H) id tot=some (DK U (.row t xs fl)):=by
 unfold Dt;rw[NH,h];simp[DK,hl]
theorem Z3k {E:Env} (A:Dw U E) {e:Nat}:∀{vs:List (SV U.Ty)} {ys:List (U.Ty e)},SK e vs=some ys->(BB U vs).map (EU (E.rows e))=ys.map (U.enc e)/\∀v∈vs,okS v=true:=by
 intro vs;induction vs with
 | nil=>intro ys h;simp only[SK,Option.some.injEq]at h;subst h;simp[BB]
 | cons v vs D=>
  intro ys h;simp only[SK]at h;split at h
  ·rename_i a as F q z;simp only[Option.some.injEq]at h;subst h;obtain⟨C,G⟩:=D z;refine⟨by simp only[BB,List.map_cons,C,A.dec _ _ _ q],?_⟩
   simp_all
  ·cases h
theorem ZGu {E:Env} (C:Dw U E) {t:Nat} {cs:List V} {ys:List (U.Ty t)} {j:Nat} {x:U.Ty t} (F:SK t (cs.map (TA U))=some ys) (hl:cs.all JM=true) (I:ys[j]? = some x):cs[j]? = some (AY U (U.encS t x)):=by
 obtain⟨A,-⟩:=Z3k C F;have D:BB U (cs.map (TA U))=cs:=by
  rw[FU,List.map_map];exact(List.map_congr_left fun v _=>Z3D v).trans (List.map_id cs)
 rw[D]at A;have q:=congrArg (·[j]?) A;simp only[List.getElem?_map,I,Option.map_some]at q;cases hc:cs[j]? with
 | none=>simp[hc]at q
 | some v=>
  simp only[hc,Option.map_some,Option.some.injEq]at q;have G:=List.all_eq_true.1 hl v (List.mem_of_getElem? hc);cases v with
  | lit z=>rw[C.encS,<- q];rfl
  | _=>simp[JM]at G
theorem ZgC {E:Env} (A:Dw U E) {H:BI U} {t:TypeId} {a y:SV U.Ty} (h:(loadT E H t a).A7 y):Nb E (BP U H) t (AY U a)=some (AY U y):=by
 unfold loadT at h;split at h
 ·simp[Tr.A7]at h
 ·rename_i i J;unfold Nb;rw[J];simp only;split at h
  ·rename_i F xs j off;simp only[Tr.A7,Ol]at h;obtain⟨x,q,hp⟩:=h;simp only[AY,Oy,List.getElem?_map,q,Option.map_some];rw[A.cells,Wy,hp];rfl
  ·rename_i id j off tot;split at h
   ·rename_i e n x hb;simp only[Es,Ol]at h;obtain⟨⟨rfl,rfl,C⟩,hp⟩:=h;simp only[AY,Z3p hb,CJ,Oy,List.getElem?_cons_zero];rw[U4 C,Wy,hp];rfl
   ·rename_i F xs fl hb;simp only[Tr.A7,Ol,beq_iff_eq]at h;obtain⟨hl,x,q,hp⟩:=h;simp only[AY,ZfU hb hl,DK,Oy,List.getElem?_map,q,Option.map_some];rw[A.cells,Wy,hp];rfl
   ·simp[Tr.A7]at h
  ·rename_i e z;simp only[Ol]at h;simp only[AY,Oy,List.getElem?_cons_zero];rw[show (V.lit z).cells=BB U [SV.lit z] from rfl,Wy,h];rfl
  ·rename_i e cs off;simp only[Ol]at h;cases hp:partOf cs off i.size i.isAgg with
   | none=>simp[hp]at h
   | some v=>
    simp only[hp,Option.map_some,Option.some.injEq]at h;subst h;simp only[AY,Oy,List.getElem?_cons_zero,V.cells,hp,XC]
  ·rename_i d cs off;split at h
   ·rename_i ys D;simp only[Es,Tr.A7]at h;obtain⟨⟨M,G,I⟩,x,q,rfl⟩:=h;simp only[AY,Oy,List.getElem?_cons_zero,V.cells,partOf,G,ZGu A D I q,Bool.false_eq_true,if_false]
   ·simp[Tr.A7]at h
  ·simp[Tr.A7]at h
theorem ZBt {E:Env} (S:Dw U E) {H H' : BI U} {t:TypeId} {a v:SV U.Ty} (h:(storeT E H t a v).A7 H'):NP E (BP U H) t (AY U a) (AY U v)=some (BP U H'):=by
 unfold storeT at h;split at h
 ·simp[Tr.A7]at h
 ·rename_i i hi;unfold NP;rw[hi];simp only;split at h
  ·rename_i id j off tot;split at h
   ·rename_i e n x hb;simp only[Es]at h;obtain⟨⟨⟨rfl,rfl⟩,hl,q,Y⟩,h⟩:=h;split at h
    ·rename_i x' C;simp only[Es,Tr.A7]at h;obtain⟨F,rfl⟩:=h;simp only[AY,Z3p hb,CJ,List.getElem?_cons_zero];rw[U4 q,JY,hl,ZdK C,QU q];simp[QU F,Q3,DK,CJ]
    ·simp[Tr.A7]at h
   ·rename_i Q xs fl hb;simp only[Es,Tr.A7,Eg,Bool.and_eq_true,beq_iff_eq,decide_eq_true_eq]at h;obtain⟨⟨hl,q,O⟩,⟨D,N⟩,x,hx,v',M,h⟩:=h;split at h
    ·rename_i x' C;split at h
     ·rename_i y hy;simp only[Es,Tr.A7]at h;obtain⟨⟨A,G⟩,rfl⟩:=h;simp only[AY,ZfU hb D,DK,List.getElem?_map,hx,Option.map_some];rw[U4 q,JY,hl,QU q];have hc:(Ie (BP U H) (AY U v))=some (AY U v'):=wE M;have J:=ZdK C;rw[S.encS]at J;have z:=S.dec Q x' y hy;have I:okV (U.enc Q y)=true:=by rw[<- z,uK];exact QU G
      rw[hc];simp only[U4 A,J,Option.map_some,z,I,QU A,Z3L,O,beq_self_eq_true,Bool.and_self,Bool.and_true,decide_eq_true N,if_true,Bool.not_true,Bool.or_self,Bool.false_eq_true,if_false];rw[Q3,Wu H _ (ZfO M)];simp[DK,List.map_set]
     ·simp[Tr.A7]at h
    ·simp[Tr.A7]at h
   ·simp[Tr.A7]at h
  ·simp[Tr.A7]at h
end
section
variable {U:DI}
theorem L8 {x:SV U.Ty} {k:IntKind} {a:Int} (h:asInt x=some (k,a)):AY U x = .lit (.int k a):=by
 unfold asInt at h;split at h<;>simp_all [AY]
theorem QP {x:SV U.Ty} {s:ByteArray} (h:Js x=some s):AY U x = .lit (.string s):=by
 unfold Js at h;split at h<;>simp_all [AY]
theorem U0 {x:SV U.Ty} {b:Bool} (h:asBool x=some b):AY U x = .lit (.bool b):=by
 unfold asBool at h;split at h<;>simp_all [AY]
theorem Zfw {x:SV U.Ty} {n:Int} {l:Bool} (h:yC x=some (n,l)):∃k,AY U x = .lit (.int k n):=by
 unfold yC at h;split at h<;>simp_all [AY]
theorem ZFX {op:BinOp} {k:IntKind} {a b:Int} {l:Bool} {y:SV U.Ty} (h:(intT op k a b l).A7 y):(PR op k a b).map V.lit=some (AY U y):=by
 unfold intT at h;cases op<;>simp only[Tr.A7]at h<;>(try (subst h;rfl))<;>(try (exact h.elim))
 ·split at h
  ·split at h
   ·simp[Tr.A7]at h
   ·rename_i hb;simp only[Tr.A7]at h;subst h;simp[PR,hb,AY]
  ·simp only[Tr.A7,bne_iff_ne,ne_eq]at h;obtain⟨hb,rfl⟩:=h;simp[PR,hb,AY]
 ·split at h
  ·split at h
   ·simp[Tr.A7]at h
   ·rename_i hb;simp only[Tr.A7]at h;subst h;simp[PR,hb,AY]
  ·simp only[Tr.A7,bne_iff_ne,ne_eq]at h;obtain⟨hb,rfl⟩:=h;simp[PR,hb,AY]
theorem ZfG {op:BinOp} {k:IntKind} {a b:Int} {l:Bool} {y:SV U.Ty} (h:(xC op k a b l).A7 y):(QZ op k a b).map V.lit=some (AY U y):=by
 unfold xC at h;split at h
 ·simp[Tr.A7]at h
 ·rename_i r q;have key:∀(hb:¬b<0) (z:SV.si k r=y),(QZ op k a b).map V.lit=some (AY U y):=by
   intro hb z;subst z;unfold QZ;unfold Zi0 at q;split at q<;>simp_all [AY]
  split at h
  ·split at h
   ·simp[Tr.A7]at h
   ·rename_i hb;exact key hb h
  ·simp only[Tr.A7,decide_eq_true_eq]at h
   simp_all
theorem ZFD {op:BinOp} {x y:ByteArray} {z:SV U.Ty} (h:(strT op x y).A7 z):(XV op x y).map V.lit=some (AY U z):=by
 unfold strT at h;cases op<;>simp only[Tr.A7]at h<;>(try (subst h;rfl))<;>(try (exact h.elim));obtain⟨hb,rfl⟩:=h;simp only[decide_eq_true_eq]at hb;simp[XV,hb,AY]
theorem ZvR:∀{ks:List FK} {xs ys:List (SV U.Ty)} {r:Bool},OH ks xs ys=some r->J8 ks (BB U xs) (BB U ys)=some r:=by
 intro ks;induction ks with
 | nil=>
  intro xs ys r h;unfold OH at h;split at h<;>simp_all [BB,J8]
 | cons k ks C=>
  intro xs ys r h;cases xs with
  | nil=>cases k<;>simp[OH]at h
  | cons x xs=>
   cases ys with
   | nil=>cases k<;>simp[OH]at h
   | cons y ys=>
    cases k with
    | b=>
     simp only[OH]at h;split at h
     ·rename_i a b D q z A;simp only[Option.some.injEq]at h;subst h;simp only[BB,U0 q,U0 z,J8,C A]
     ·cases h
    | i k=>
     simp only[OH]at h;split at h
     ·rename_i k1 a k2 b D q z A;split at h
      ·rename_i hk;simp only[Option.some.injEq]at h;subst h;simp only[BB,L8 q,L8 z,J8,C A,hk,and_self,if_true]
      ·cases h
     ·cases h
    | s=>
     simp only[OH]at h;split at h
     ·rename_i a b D q z A;simp only[Option.some.injEq]at h;subst h;simp only[BB,QP q,QP z,J8,C A]
     ·cases h
theorem ZEm {E:Env} {op:BinOp} {t:TypeId} {x y z:SV U.Ty} (h:(binT E op t x y).A7 z):Nr E op t (AY U x) (AY U y)=some (AY U z):=by
 unfold binT at h;split at h
 ·rename_i xs ys;split at h
  ·rename_i ks A;split at h
   ·rename_i b hb;have:=ZvR hb;split at h
    ·simp only[Tr.A7]at h;subst h;simp only[AY,Nr,A,this,Option.map_some]
    ·simp only[Tr.A7]at h;subst h;simp only[AY,Nr,A,this,Option.map_some]
    ·simp[Tr.A7]at h
   ·simp[Tr.A7]at h
  ·simp[Tr.A7]at h
 ·split at h
  ·rename_i k a j b q hb;rw[L8 q,L8 hb];split at h
   ·exact ZfG h
   ·exact ZfG h
   ·rename_i D F;split at h
    ·rename_i hk;have G:=ZFX h;subst hk;have hb:Nr E op t (.lit (.int k a)) (.lit (.int k b))=(PR op k a b).map V.lit:=by
      cases op<;>first|exact absurd rfl D|exact absurd rfl F|simp[Nr]
     simp_all
    ·simp[Tr.A7]at h
  ·split at h
   ·rename_i a b q hb;rw[QP q,QP hb];have:=ZFD h;unfold Nr;split<;>simp_all
   ·split at h
    ·rename_i a b q hb;rw[U0 q,U0 hb];split at h
     ·rename_i C;split at h
      ·simp only[Tr.A7]at h;subst h;simp[Nr,C,AY]
      ·simp only[Tr.A7]at h;subst h;simp[Nr,C,AY]
      ·simp[Tr.A7]at h
     ·simp[Tr.A7]at h
    ·simp[Tr.A7]at h
theorem ZI2 {op:UnOp} {x z:SV U.Ty} (h:(unT op x).A7 z):kX op (AY U x)=some (AY U z):=by
 unfold unT at h;split at h
 ·rename_i k n hk;simp only[Tr.A7]at h;subst h;rw[L8 hk];rfl
 ·rename_i k n hk;simp only[Tr.A7]at h;subst h;rw[L8 hk];rfl
 ·rename_i b _ hb;simp only[Tr.A7]at h;subst h;rw[U0 hb];rfl
 ·simp[Tr.A7]at h
theorem ZH4 {q:Bool} {k:IntKind}:∀{xs:List (SV U.Ty)} {a r:Int},lH q k a xs=some r->mm q k a (BB U xs)=some (.lit (.int k r)):=by
 intro xs;induction xs with
 | nil=>intro a r h;simp only[lH,Option.some.injEq]at h;subst h;rfl
 | cons x xs A=>
  intro a r h;simp only[lH]at h;split at h
  ·rename_i j b z;split at h
   ·rename_i hk;simp only[BB,L8 z,mm,hk,if_true];exact hk▸A h
   ·cases h
  ·cases h
theorem Zeo {q:Bool} {xs:List (SV U.Ty)} {z:SV U.Ty} (h:(wR q xs).A7 z):Qa q (BB U xs)=some (AY U z):=by
 unfold wR at h;split at h
 ·rename_i x A;split at h
  ·rename_i k a hk;split at h
   ·rename_i r C;simp only[Tr.A7]at h;subst h;simp only[BB,L8 hk,Qa,AY];exact ZH4 C
   ·simp[Tr.A7]at h
  ·simp[Tr.A7]at h
 ·simp[Tr.A7]at h
def NQ (q:List (Nat×SV U.Ty)):List (Nat×V):=q.map fun(i,x)=>(i,AY U x)
theorem Zgk {place:Nat->Option (Nat×Nat)}:∀{q:List (Nat×SV U.Ty)} {cs z : List (SV U.Ty)},SY cs q place=some z -> PS (BB U cs) (NQ q) place=some (BB U z):=by
 intro q;induction q with
 | nil=>intro cs z h;simp only[SY,Option.some.injEq]at h;subst h;rfl
 | cons p q F=>
  intro cs z h;obtain⟨i,v⟩:=p;simp only[SY]at h;split at h
  ·cases h
  ·rename_i off size hp;split at h
   ·rename_i hc;simp only[Bool.and_eq_true,beq_iff_eq,decide_eq_true_eq]at hc;obtain⟨⟨C,D⟩,A⟩:=hc;have:=F h;simp only[NQ,List.map_cons,PS,hp];rw[U4 A,JY,C,JY,QU A];simp only[beq_self_eq_true,D,decide_true,Bool.and_self,if_true];rw[<- this];simp only[NQ,FU,List.map_append,List.map_take,List.map_drop]
   ·cases h
theorem cells_toV' {x:SV U.Ty} (h:∀cs,x≠.raw (.agg cs)):(AY U x).cells=BB U (cellsS x):=by
 cases x with
 | raw v=>
  cases v with
  | agg cs=>exact absurd rfl (h cs)
  | _=>rfl
 | _=>rfl
theorem Zfl {z:V}:BB U (cellsS (KD U z))=z.cells:=by
 have C:∀cs,KD U z≠.raw (.agg cs):=by
  intro cs q;unfold KD at q;split at q
  ·cases q
  ·rename_i A;unfold TA at q;split at q<;>(try cases q);simp at A
 rw[<- cells_toV' C,XC]
theorem ZCh {E:Env} {t:TypeId} {q:List (Nat×SV U.Ty)} {y:SV U.Ty} (h:Z4A E t q=some y):XM E t (NQ q)=some (AY U y):=by
 unfold Z4A at h;unfold XM;split at h
 ·rename_i i I;rw[I];split at h
  ·rename_i z hz;simp only[hz];split at h
   ·rename_i F;rw[if_pos F];split at h
    ·rename_i fs A;simp only[A];split at h
     ·rename_i C;rw[if_pos C];cases hf:SY (cellsS (KD U z)) q (placesOf E fs) with
      | none=>simp[hf]at h
      | some cs=>
       simp only[hf,Option.map_some,Option.some.injEq]at h;subst h;have:=Zgk hf;rw[Zfl]at this;simp only[this,Option.map_some,AY]
     ·cases h
    ·rename_i len e A;simp only[A];split at h
     ·rename_i G D;simp only[D];cases hf:SY (cellsS (KD U z)) q (fun i=>some (i*G.size,G.size)) with
      | none=>simp[hf]at h
      | some cs=>
       simp only[hf,Option.map_some,Option.some.injEq]at h;subst h;have:=Zgk hf;rw[Zfl]at this;simp only[this,Option.map_some,AY]
     ·cases h
    ·cases h
   ·cases h
  ·cases h
 ·cases h
theorem Zz2 (sz:Nat):∀(vs pre post:List V),(∀v∈vs,v.cells.length=sz/\okV v=true)->vs.length<=post.length ->
  N7 (pre++post) sz ((List.range' pre.length vs.length).zip vs)=some (pre++vs++post.drop vs.length):=by
 intro vs;induction vs with
 | nil=>intro pre post _ _;simp[N7]
 | cons v vs D=>
  intro pre post h hl;cases post with
  | nil=>simp at hl
  | cons p post=>
   simp only[List.length_cons,List.range'_succ,List.zip_cons_cons,N7];obtain⟨z,A⟩:=h v (by simp);have q:(pre++p::post).set pre.length v=(pre++[v])++post:=by simp
   have:=D (pre++[v]) post (fun x C=>h x (by simp[C])) (by simpa using hl);rw[List.length_append,List.length_singleton]at this;rw[z,A,q,this];simp
theorem ZqP {E:Env} (hU:Dw U E) {k:Nat} {H H' : BI U} {t:TypeId} {n:Nat} {q:List (Nat×SV U.Ty)} {y:SV U.Ty} (h:(Z2g E k H t n q).A7 (y,H')) :
  QF E k (BP U H) t n (NQ q)=some (AY U y,BP U H'):=by
 unfold Z2g at h;unfold QF;split at h
 ·rename_i e sz by' z0 S;rw[S];simp only;split at h
  ·rename_i ei N;simp only[N];split at h
   ·rename_i z hz;simp only[Eg]at h;obtain⟨vs,J,h⟩:=h;split at h
    ·rename_i ys Y;simp only[Es,Tr.A7,Prod.mk.injEq]at h;obtain⟨⟨⟨c1,c2,c3,c4⟩,c5,c6,c7⟩,rfl,rfl⟩:=h;have Q:(NQ q).map (·.2)=BB U (q.map (·.2)):=by
      rw[FU];simp[NQ]
     have O:(NQ q).map (·.1)=List.range n:=by rw[<- c5];simp[NQ]
     obtain⟨M,d2⟩:=Z3k hU Y;have hf:=Z2o J;have G:(BB U vs).length=n:=by
      rw[<- Zs0 hf,JY,List.length_map,<- List.length_map (f:=(·.1)) (as:=q),c5,List.length_range]
     have C : (ys.map (U.enc e)).length=n:=by rw[<- M,List.length_map,G]
     have D:(n==0 && !(NQ q).isEmpty)=false:=by
      cases hn:n with
      | zero=>
       simp_all
      | succ m=>simp
     rw[hz,Q,hf];simp only;rw[if_pos ⟨c1,c2,c3,c4,D⟩,O,M];have A:=Zz2 ei.size (ys.map (U.enc e)) [] (List.replicate n (EU (E.rows e) z)) (by
      intro v hv;rw[<- M]at hv;obtain⟨w,hw,rfl⟩:=List.mem_map.1 hv;rw[FU]at hw;obtain⟨s,hs,rfl⟩:=List.mem_map.1 hw;have I:=d2 s hs;rw[uK,Zyi];refine⟨?_,QU I⟩;rw[U4 I,JY];simpa using List.all_eq_true.1 c6 s hs) (by rw[C];simp)
     rw[C]at A;simp only[List.length_nil,List.nil_append]at A;rw[show List.range n=List.range' 0 n from List.range_eq_range' ..,A];have F:List.drop n (List.replicate n (EU (E.rows e) z))=[]:=by simp
     rw[F,List.append_nil,Rt,Z2X,Wu H _ (ZbV J)];simp[AY,DK,CJ,c7]
    ·simp[Tr.A7]at h
   ·simp[Tr.A7]at h
  ·simp[Tr.A7]at h
 ·simp[Tr.A7]at h
theorem ZrB {E:Env} {s:TypeId} {x y:SV U.Ty} {f:Nat} (h:Z2z E s x f=some y):WQ E s (AY U x) f=some (AY U y):=by
 unfold Z2z at h;unfold WQ;split at h
 ·rename_i fs sz by' C q;rw[q];simp only;split at h
  ·rename_i o t A;rw[A];simp only;split at h
   ·rename_i n z;simp only[z];split at h
    ·cases h
    ·rename_i hz;rw[if_neg hz];split at h
     ·simp only[Option.some.injEq]at h;subst h;rfl
     ·simp only[Option.some.injEq]at h;subst h;rfl
     ·simp only[Option.some.injEq]at h;subst h;rfl
     ·cases h
   ·cases h
  ·cases h
 ·cases h
theorem ZAp {E:Env} {s:TypeId} {x y:SV U.Ty} {f:Nat} (h:Z4H E s x f=some y):XK E s (AY U x) f=some (AY U y):=by
 unfold Z4H at h;unfold XK;split at h
 ·rename_i fs sz by' C cs q;rw[q];simp only[AY];split at h
  ·rename_i o t A;rw[A];simp only;split at h
   ·rename_i i z;simp only[z,Wy,h,Option.map_some]
   ·cases h
  ·cases h
 ·cases h
theorem bU {L:Type} {n:Int} {lit:Bool} {len:Nat} {k:Nat->Tr U L} {y:L} (h:(Ub n lit len k).A7 y):(0<=n/\n<len)/\(k n.toNat).A7 y:=by
 unfold Ub at h;split at h
 ·split at h
  ·simp_all
  ·simp[Tr.A7]at h
 ·revert h
  suffices hh:∀l:List Nat,(∀i∈l,i<len)->(l.foldr (fun(i:Nat) q=>Tr.br (n==(i:Int)) (k i) q) .fail).A7 y->(0<=n/\n<len)/\(k n.toNat).A7 y from
   fun h=>hh _ (fun i z=>by simpa using z) h
  intro l;induction l with
  | nil=>intro _ h;simp[Tr.A7]at h
  | cons i l D=>
   intro hl h;simp only[List.foldr_cons,Tr.A7,beq_iff_eq]at h;rcases h with ⟨C,A⟩|⟨_,A⟩
   ·simp_all
   simp_all
theorem ZrL {E:Env} {H:BI U} {t:TypeId} {x i y:SV U.Ty} (h:(Z2F E H t x i).A7 y):QI E (BP U H) t (AY U x) (AY U i)=some (AY U y):=by
 unfold Z2F at h;unfold QI;split at h
 ·rename_i Q n ti J G;rw[L8 J,G];simp only;split at h
  ·rename_i O C;simp only[C];split at h
   ·rename_i F xs;simp only[Es,Tr.A7,decide_eq_true_eq]at h;obtain⟨z,A,rfl⟩:=h;simp only[AY,List.length_map,A,z,and_self,if_true]
   ·rename_i F xs;simp only[Es,Tr.A7,decide_eq_true_eq]at h;obtain⟨z,A,rfl⟩:=h;simp only[AY,List.length_map,A,z,and_self,if_true]
   ·rename_i id m;obtain⟨F,xs,fl,M,N,D,I⟩:=IW h;simp only[Es,Tr.A7,decide_eq_true_eq]at D;obtain⟨z,A,rfl⟩:=D;simp only[AY,I,DK,A,z,and_self,if_true,Nat.zero_add]
   ·rename_i id off len tot;obtain⟨F,xs,fl,M,N,D,I⟩:=IW h;simp only[Es,Tr.A7,decide_eq_true_eq]at D;obtain⟨z,A,rfl⟩:=D;simp only[AY,I,DK,A,z,and_self,if_true]
   ·simp[Tr.A7]at h
  ·rename_i len e C;simp only[C];split at h
   ·simp[Tr.A7]at h
   ·rename_i sz q;split at h
    ·obtain⟨hb,h⟩:=bU h;simp only[Tr.A7]at h;subst h;simp only[AY,q,hb,and_self,if_true]
    ·obtain⟨hb,h⟩:=bU h;simp only[Tr.A7]at h;subst h;simp only[AY,q,hb,and_self,if_true]
    ·split at h
     ·rename_i hc;simp only[Bool.and_eq_true,decide_eq_true_eq]at hc;simp only[Tr.A7,decide_eq_true_eq]at h;obtain⟨hb,rfl⟩:=h;simp only[AY,q,hb,and_self,if_true,hc.1,Nat.mul_one,Nat.zero_add]
     ·obtain⟨hb,h⟩:=bU h;simp only[Tr.A7]at h;subst h;simp only[AY,q,hb,and_self,if_true]
    ·obtain⟨hb,h⟩:=bU h;simp only[Tr.A7]at h;subst h;simp only[AY,q,hb,and_self,if_true]
    ·simp[Tr.A7]at h
  ·simp[Tr.A7]at h
 ·simp[Tr.A7]at h
theorem ZD0 {s:ByteArray} {n:Nat} (h:n<s.size):s[n]? = some (s.get! n):=by
 rw[getElem?_pos s n h];cases s with
 | mk d=>
  have q:n<d.size:=h;show some d[n]=some d[n]!
  simp_all
theorem ZC4 {E:Env} {t:TypeId} {x i y:SV U.Ty} (h:(Z4p E t x i).A7 y):XF E t (AY U x) (AY U i)=some (AY U y):=by
 unfold Z4p at h;unfold XF;split at h
 ·rename_i M n F;rw[L8 F];simp only;split at h
  ·rename_i len e sz by' G cs q;rw[q];simp only[AY];split at h
   ·rename_i I z;obtain⟨hb,h⟩:=bU h;rw[Ol]at h;simp only[z,hb,and_self,if_true,Wy,h,Option.map_some]
   ·simp[Tr.A7]at h
  ·rename_i sz by' G q;rw[q];split at h
   ·rename_i s hs;rw[QP hs];split at h
    ·rename_i D;simp only[Tr.A7,decide_eq_true_eq]at h;obtain⟨⟨C,J⟩,rfl⟩:=h;have A:n.toNat<s.size:=by omega
     simp only[D,C,if_true,ZD0 A,Option.map_some,AY]
    ·simp[Tr.A7]at h
   ·simp[Tr.A7]at h
  ·simp[Tr.A7]at h
 ·simp[Tr.A7]at h
theorem uA {t:Nat} {xs:List (U.Ty t)} {y:SV U.Ty} (h:(X0 t xs).A7 y) :
  U.BA t=1/\∃q,bytesOf (xs.map (U.enc t))=some q/\q.length<=maxLen/\y = .ss ⟨q.toArray⟩:=by
 unfold X0 at h;simp only[Es,Tr.A7]at h;obtain⟨z,A,C⟩:=h;refine⟨z,?_⟩;unfold NG at A;unfold strOf at C
 grind
theorem ZAP {E:Env} {H:BI U} {F dst:TypeId} {x y:SV U.Ty} (h:(Z4h E H F dst x).A7 y):Iz E (BP U H) F dst (AY U x)=some (AY U y,BP U H):=by
 unfold Z4h at h;simp only[Es]at h;obtain⟨hb,h⟩:=h;simp only[Bool.and_eq_true]at hb;split at h
 ·simp only[Tr.A7]at h;subst h;simp[Iz,AY,hb,FD,elemsOf,bytesOf]
 ·obtain⟨A,G,z,q,rfl⟩:=uA h;simp[Iz,AY,hb,FD,elemsOf,A,z,q]
 ·obtain⟨A,G,z,q,rfl⟩:=uA h;simp[Iz,AY,hb,FD,elemsOf,A,z,q]
 ·obtain⟨t,xs,fl,A,z,q,C⟩:=IW h;obtain⟨I,G,J,M,rfl⟩:=uA q;subst z;rename_i id;have D:elemsOf (BP U H) (AY U (.all id xs.length))=some (xs.map (U.enc t)):=by
   simp only[AY,elemsOf,C];simp only[DK,Nat.zero_add,Nat.le_refl,decide_true,Bool.and_self,if_true,List.drop_zero,Option.some.injEq];exact List.take_of_length_le (by simp)
  simp only[AY]at D;simp only[Iz,AY,hb,D,FD,C,DK,I,Bool.and_self,beq_self_eq_true,if_true,J,if_pos M]
 ·obtain⟨t,xs,fl,A,z,q,C⟩:=IW h;simp only[Tr.A7,decide_eq_true_eq]at q;obtain⟨N,q⟩:=q;obtain⟨I,G,J,M,rfl⟩:=uA q;rename_i id off len tot;have D:elemsOf (BP U H) (AY U (.Bl id off len tot))=some ((((xs.drop off).take len)).map (U.enc t)):=by
   simp only[AY,elemsOf,C];simp[DK,N,List.map_take,List.map_drop]
  simp only[AY]at D;simp only[Iz,AY,hb,D,FD,C,DK,I,Bool.and_self,beq_self_eq_true,if_true,J,if_pos M]
 ·simp[Tr.A7]at h
theorem ZDw {E:Env} {H:BI U} {q dst:TypeId} {x y:SV U.Ty} (h:(Z4Z E H q dst x).A7 y):Iz E (BP U H) q dst (AY U x)=some (AY U y,BP U H):=by
 unfold Z4Z at h;split at h
 ·rename_i k n A;rw[L8 A];unfold Iz;split at h
  ·rename_i j z;simp only[z];split at h
   ·rename_i hs;simp only[Tr.A7]at h;subst h;simp[hs,AY]
   ·simp[Tr.A7]at h
  ·simp[Tr.A7]at h
 ·split at h
  ·rename_i s hs;rw[QP hs];unfold Iz;split at h
   ·rename_i hb;simp only[Tr.A7]at h;subst h;simp only[Bool.and_eq_true]at hb;simp[hb,AY]
   ·simp[Tr.A7]at h
  ·exact ZAP h
end
section
variable {U:DI}
theorem Zfu {H:BI U} {x:SV U.Ty} {e:Nat} {ys:List (U.Ty e)} (h:(xG H x e).A7 ys) :
  elemsOf (BP U H) (AY U x)=some (ys.map (U.enc e))/\(FD (BP U H) (AY U x) (U.BA e)=true):=by
 have A:∀(t:Nat) (xs:List (U.Ty t)),(if h:t=e then Tr.leaf (h▸xs) else Tr.fail:Tr U (List (U.Ty e))).A7 ys->∃C:t=e,(C▸xs:List (U.Ty e))=ys:=by
  intro t xs h;split at h
  ·rename_i C;exact⟨C,h⟩
  ·simp[Tr.A7]at h
 unfold xG at h;simp only at h;split at h
 ·simp only[Tr.A7]at h;subst h;exact⟨rfl,rfl⟩
 ·obtain⟨rfl,rfl⟩:=A _ _ h;exact⟨rfl,by simp[AY,FD]⟩
 ·obtain⟨rfl,rfl⟩:=A _ _ h;exact⟨rfl,by simp[AY,FD]⟩
 ·obtain⟨t,xs,fl,G,F,q,z⟩:=IW h;obtain⟨rfl,rfl⟩:=A _ _ q;subst F;refine⟨?_,by simp[AY,FD,z,DK]⟩;simp only[AY,elemsOf,z];simp only[DK,Nat.zero_add,Nat.le_refl,decide_true,Bool.and_self,if_true,List.drop_zero,Option.some.injEq];exact List.take_of_length_le (by simp)
 ·obtain⟨t,xs,fl,G,F,q,z⟩:=IW h;simp only[Tr.A7,decide_eq_true_eq]at q;obtain⟨D,q⟩:=q;obtain⟨rfl,rfl⟩:=A _ _ q;refine⟨?_,by simp[AY,FD,z,DK]⟩;simp only[AY,elemsOf,z];simp[DK,D,List.map_take,List.map_drop]
 ·simp[Tr.A7]at h
theorem Zg5 {L:Type} {kd:IntKind} {n:Int} {lit:Bool} {z:Tr U L} {f:SV U.Ty->Tr U L} {y:L}:∀{kvs:List (SV U.Ty)},(Qm kd n lit z f kvs).A7 y ->
  (N9 kd n (BB U kvs)=some none/\z.A7 y)\/∃v,N9 kd n (BB U kvs)=some (some (AY U v))/\(f v).A7 y
 | [],h=>.inl ⟨rfl,h⟩
 | [x],h=>by
  cases x with
  | lit v=>cases v<;>simp[Qm,Tr.A7]at h
  | _=>simp[Qm,Tr.A7]at h
 | x::v::r,h=>by
  have key:∀k a,x = .lit (.int k a)->(N9 kd n (BB U (x::v::r))=some none/\z.A7 y)\/∃u,N9 kd n (BB U (x::v::r))=some (some (AY U u))/\(f u).A7 y:=by
   intro k a A;subst A;simp only[Qm,Es]at h;obtain⟨rfl,h⟩:=h;simp only[BB,AY,N9,if_true]
   by_cases q:n=a
   ·subst q;simp only[if_true];cases lit with
    | true=>
     grind
    | false=>
     simp only[Bool.false_eq_true,if_false,Tr.A7,beq_self_eq_true,true_and]at h
     grind
   ·rw[if_neg q];refine Zg5 (lit:=lit) (z:=z) (f:=f) (kvs:=r) ?_;cases lit with
    | true=>
     simp_all
    | false=>
     have hb:(n==a)=false:=by simpa using q
     simp only[Bool.false_eq_true,if_false,Tr.A7,hb]at h
     simp_all
  cases x with
  | lit c=>
   cases c with
   | int k a=>exact key k a rfl
   | _=>simp[Qm,Tr.A7]at h
  | _=>simp[Qm,Tr.A7]at h
theorem ZDT {E:Env} {t:TypeId} {ok:Bool} {m x y:SV U.Ty} (h:(Z4Y E t ok m x).A7 y):XU E t ok (AY U m) (AY U x)=some (AY U y):=by
 unfold Z4Y at h;split at h
 ·rename_i k e sz by' I kvs kd n D F;simp only[Es]at h;obtain⟨hk,h⟩:=h;rw[L8 F];simp only[AY,XU,D,hk,if_true];rcases Zg5 h with ⟨A,q⟩|⟨v,A,q⟩
  ·rw[A];simp only;split at q
   ·rename_i G C;rw[C];simp only;split at q
    ·rename_i z hz;simp only[Tr.A7]at q;subst q;rw[hz];cases ok<;>simp[AY,BB,XC]
    ·simp[Tr.A7]at q
   ·simp[Tr.A7]at q
  ·rw[A];simp only[Tr.A7]at q;subst q;cases ok<;>simp[AY,BB]
 ·simp[Tr.A7]at h
theorem ZAt (v:SV U.Ty):AY U (Z4P v)=AY U v:=by cases v<;>rfl
theorem ZxN {E:Env} {k:Nat} {H H' : BI U} {t u:TypeId} {s x y:SV U.Ty} (h:(Z4f E k H t u s x).A7 (y,H')) :
  NL E k (BP U H) t u (AY U s) (AY U x)=some (AY U y,BP U H'):=by
 unfold Z4f at h;unfold NL;split at h
 ·rename_i e sz by' z0 O;rw[O];simp only;split at h
  ·rename_i ei M;simp only[Es,Eg]at h;obtain⟨⟨rfl,G,hz,q⟩,ys,Q,h⟩:=h;obtain⟨e1,S⟩:=Zfu Q;rw[q]at S;simp only[M,beq_self_eq_true,e1];rw[if_pos (by simp[G,S,hz])];split at h
   ·rename_i id n;obtain⟨Y,xs,fl,h1,I,z,J⟩:=IW h;split at z
    ·rename_i F;subst F;simp only[Tr.A7,Bool.and_eq_true,decide_eq_true_eq,Prod.mk.injEq]at z;obtain⟨⟨C,D⟩,rfl,rfl⟩:=z;subst I;simp only[AY,J,List.length_map];simp only[DK,q,beq_self_eq_true,decide_true,Bool.and_self,if_true,C,D,Option.some.injEq,Prod.mk.injEq];refine⟨by simp[AY],?_⟩;rw[Q3];simp[DK,q]
    ·simp[Tr.A7]at z
   ·rename_i id off len tot;obtain⟨Y,xs,fl,h1,I,z,J⟩:=IW h;split at z
    ·rename_i F;subst F;simp only[Tr.A7,Bool.and_eq_true,decide_eq_true_eq,Prod.mk.injEq]at z;obtain⟨⟨C,D,l3,l4⟩,rfl,rfl⟩:=z;subst I;subst C;have N:¬len=xs.length:=by omega
     simp only[AY,J];simp only[DK,q,beq_self_eq_true,decide_true,Bool.and_self,Bool.and_true,Bool.true_and,N,decide_false,Bool.and_false,Bool.false_and,Bool.false_eq_true,if_false,D,l3,l4,List.length_map,if_true,Option.some.injEq,Prod.mk.injEq,true_and];rw[Q3];simp[DK,q,List.map_take,List.map_drop]
    ·simp[Tr.A7]at z
   ·simp only[Tr.A7,Bool.and_eq_true,decide_eq_true_eq,Prod.mk.injEq]at h;obtain⟨⟨C,D⟩,rfl,rfl⟩:=h;simp only[AY,List.length_map,C,D,decide_true,Bool.and_self,if_true,Option.some.injEq,Prod.mk.injEq,true_and];rw[Rt];simp[DK,CJ,q]
   ·rename_i Y xs;split at h
    ·rename_i F;subst F;simp only[Tr.A7,Bool.and_eq_true,decide_eq_true_eq,Prod.mk.injEq]at h;obtain⟨⟨C,D⟩,h⟩:=h;simp only[AY,List.length_map,q,beq_self_eq_true,C,D,decide_true,Bool.and_self,if_true];rcases h with ⟨A,rfl,rfl⟩|⟨A,rfl,rfl⟩
     ·simp[A,AY,q]
     ·simp only[List.isEmpty_map,A,Bool.false_eq_true,if_false,Option.some.injEq,Prod.mk.injEq];refine⟨by simp[AY],?_⟩;rw[Rt];simp[DK,CJ,q]
    ·simp[Tr.A7]at h
   ·simp[Tr.A7]at h
  ·simp[Tr.A7]at h
 ·simp[Tr.A7]at h
theorem ZAu {E:Env} (G:Dw U E) {k:Nat} {H H' : BI U} {dst:TypeId} {x y:SV U.Ty} (h:(Z4B E k H dst x).A7 (y,H')):NY E k (BP U H) dst (AY U x)=some (AY U y,BP U H'):=by
 unfold Z4B at h;split at h
 ·rename_i st e sz by' M hs C;simp only[Es,Tr.A7,Prod.mk.injEq]at h;obtain⟨⟨D,F⟩,A,rfl,rfl⟩:=h;have key:∀l:List UInt8,(l.all fun b=>(U.IP e (.si .u8 b.toNat)).isSome)=true->(l.filterMap fun b=>U.IP e (.si .u8 b.toNat)).map (U.enc e)=l.map fun c=>V.lit (.int .u8 c.toNat):=by
   intro l;induction l with
   | nil=>intro _;rfl
   | cons b l J=>
    intro hl;simp only[List.all_cons,Bool.and_eq_true]at hl;cases I:U.IP e (.si .u8 b.toNat) with
    | none=>simp_all
    | some a=>
     have:=G.dec _ _ _ I;simp only[AY,EU,Gz]at this
     simp_all
  have q:(KL U e st).map (U.enc e)=bytesV st:=key _ A;have z:(KL U e st).length=st.size:=by
   have:=congrArg List.length q;rw[List.length_map]at this;rw[this];simp only[bytesV,List.length_map];exact Array.length_toList
  rw[QP hs];simp only[NY,C,D,if_true,AY,z,Option.some.injEq,Prod.mk.injEq,true_and];rw[Rt];simp[DK,CJ,F,q]
 ·simp[Tr.A7]at h
theorem ZgA {x:SV U.Ty} {v:Value} (h:Xd x=some v):AY U x = .lit v:=by
 unfold Xd at h;split at h<;>simp_all [AY]
theorem ZDk {E:Env} {L:Type} (D:Dw U E) {t:Nat} {xs:List (U.Ty t)} {r:L}:∀{n i:Nat} {k:List Value->Tr U L},(yN xs i n k).A7 r->∃vs,((xs.drop i).take n).map (U.enc t)=vs.map V.lit/\vs.length=n/\(k vs).A7 r:=by
 intro n;induction n with
 | zero=>intro i k h;exact⟨[],by simp,rfl,h⟩
 | succ n J=>
  intro i k h;simp only[yN,Tr.A7]at h;obtain⟨x,I,h⟩:=h;split at h
  ·rename_i v G;obtain⟨vs,z,A,C⟩:=J h;obtain⟨F,q⟩:=List.getElem?_eq_some_iff.1 I;refine⟨v::vs,?_,by simp[A],C⟩;rw[List.drop_eq_getElem_cons F,List.take_succ_cons,List.map_cons,List.map_cons,z,q,<- D.encS,ZgA G]
  ·simp[Tr.A7]at h
theorem ZEL {E:Env} (M:Dw U E) {t:TypeId} {x y:SV U.Ty} (h:(arrT E t x).A7 y):X9 E t (AY U x)=some (AY U y):=by
 unfold arrT at h;split at h
 ·rename_i n e sz by' Q N xs C;simp only[Es]at h;obtain⟨⟨G,I,J⟩,h⟩:=h;obtain⟨vs,A,O,F⟩:=ZDk M h;simp only[Tr.A7]at F;subst F;rw[List.drop_zero]at A;unfold X9;have z:n<=xs.length:=by
   have:=congrArg List.length A;simp only[List.length_map,List.length_take]at this;omega
  have D:(xs.map (U.enc N)).take n=vs.map V.lit:=by rw[<- List.map_take,A]
  have q:(vs.map V.lit).all JM=true:=by simp[List.all_eq_true,JM]
  simp only[C,AY,G,I,J,D,List.length_map,z,q,and_self,if_true]
 ·simp[Tr.A7]at h
theorem ZuK {q:Option (SV U.Ty)} {n m:Nat} (h:Z3a q n=some m):Iy (q.map (AY U)) n n=some m:=by
 unfold Z3a at h;split at h
 ·simpa[Iy]using h
 ·simpa[Iy,JL,AY]using h
 ·cases h
theorem ZA3 {E:Env} (hU:Dw U E) {H H' : BI U} {n e:Nat} {x y:SV U.Ty} {O M Q:Option (SV U.Ty)} (h:(Z3R E H n e x O M Q).A7 (y,H')) :
  PK E (BP U H) n e (AY U x) (O.map (AY U)) (M.map (AY U)) (Q.map (AY U))=some (AY U y,BP U H'):=by
 unfold Z3R at h;split at h
 ·rename_i id i off tot m hm;split at h
  ·rename_i e' k cs hb;split at h
   ·rename_i ys I;simp only[Es,Tr.A7,Prod.mk.injEq]at h;obtain⟨⟨⟨rfl,rfl,rfl,S,Y⟩,c6,c7,c8⟩,rfl,rfl⟩:=h;obtain⟨J,d2⟩:=Z3k hU I;have A:∀c∈cs,∃v,AY U c = .lit v:=fun c hc=>by
     have:=List.all_eq_true.1 c8 c hc;obtain⟨v,C⟩:=Option.isSome_iff_exists.1 this;exact⟨v,ZgA C⟩
    have G:(BB U cs).map (EU (E.rows e))=BB U cs:=by
     rw[FU,List.map_map];apply List.map_congr_left;intro c hc;obtain⟨v,C⟩:=A c hc;simp only[Function.comp,C,EU,Gz]
    rw[G]at J;have q:(BB U cs).all JM=true:=by
     rw[FU,List.all_eq_true];intro y hy;obtain⟨c,hc,rfl⟩:=List.mem_map.1 hy;obtain⟨v,C⟩:=A c hc;rw[C];rfl
    have z:(BB U cs).length=n:=by rw[FU,List.length_map,S]
    have D:=Z3p hb;unfold PK;simp only[AY,Option.map_none,ZuK hm,D,CJ];rw[if_pos ⟨trivial,trivial,z,Y,c6,q⟩];simp only[Option.some.injEq,Prod.mk.injEq,c7,List.map_take,J,true_and];rw[Q3];simp only[bump];apply List.ext_getElem?;intro j;rw[List.getElem?_modify,List.getElem?_set]
    by_cases N:id=j
    ·subst N;have F:id<H.length:=(List.getElem?_eq_some_iff.1 hb).1;rw[NH,hb];simp[DK,CJ,AY,UY,F]
    ·simp[N]
   ·simp[Tr.A7]at h
  ·simp[Tr.A7]at h
 ·simp[Tr.A7]at h
theorem ZDL {E:Env} {H H' : BI U} {t u:TypeId} {d x y:SV U.Ty} (h:(Z4V E H t u d x).A7 (y,H')) :
  jV E (BP U H) t u (AY U d) (AY U x)=some (AY U y,BP U H'):=by
 unfold Z4V at h;unfold jV;split at h
 ·rename_i e sz by' Y D;rw[D];simp only;split at h
  ·rename_i O C;simp only[Es,Eg]at h;obtain⟨q,ys,F,h⟩:=h;obtain⟨I,G⟩:=Zfu F;rw[q]at G;simp only[C,I];split at h
   ·rename_i id n;obtain⟨S,xs,fl,Q,J,A,M⟩:=IW h;split at A
    ·rename_i N;subst N;simp only[Es,Tr.A7,Prod.mk.injEq]at A;obtain⟨z,rfl,rfl⟩:=A;subst J;simp only[AY,M];simp only[DK,q,z,beq_self_eq_true,decide_true,Bool.and_self,G,if_true,Option.some.injEq,Prod.mk.injEq,List.length_map];refine⟨by simp[AY],?_⟩;rw[Q3];simp[DK,q,z,List.map_take,List.map_drop]
    ·simp[Tr.A7]at A
   ·simp[Tr.A7]at h
  ·simp[Tr.A7]at h
 ·simp[Tr.A7]at h
theorem ZgB {L:Type} {H:BI U} {x:SV U.Ty} {k:Nat->Tr U L} {y:L} (h:(OU H x k).A7 y):∃n,lenOf (BP U H) (AY U x)=some n/\(k n).A7 y:=by
 unfold OU at h;split at h
 ·rename_i id n;obtain⟨t,xs,fl,C,D,q,z⟩:=IW h;exact⟨n,by simp[AY,lenOf,z],q⟩
 ·rename_i id off len tot;obtain⟨t,xs,fl,C,D,q,z⟩:=IW h;exact⟨len,by simp[AY,lenOf,z],q⟩
 ·split at h
  ·rename_i n A;refine⟨n,?_,h⟩;unfold lenT at A;split at A<;>simp_all [AY,lenOf]
  ·simp[Tr.A7]at h
theorem Z32 {L:Type} {H:BI U} {x:SV U.Ty} {k:Nat->Tr U L} {y:L} (h:(OU H x k).A7 y):∀v,x≠.raw v:=by
 rintro v rfl
 simp[OU,lenT,Tr.A7]at h
theorem ZhR {x:SV U.Ty} (q:∀v,x≠.raw v) (h:Un x=false):∀s,AY U x≠.lit (.string s):=by
 intro s hs;unfold Un at h;cases x with
 | raw v=>exact q v rfl
 | lit v=>simp only[AY,V.lit.injEq]at hs;subst hs;simp[Js]at h
 | ss b=>simp[Js]at h
 | _=>simp[AY]at hs
theorem ZgX {x:SV U.Ty} (h:Un x=true):∃s,Js x=some s/\AY U x = .lit (.string s):=by
 unfold Un at h;cases hs:Js x with
 | none=>simp[hs]at h
 | some s=>exact⟨s,rfl,QP hs⟩
theorem Zyq {E:Env} {t:TypeId} {x:SV U.Ty} (q:∀v,x≠.raw v):wH E t (AY U x)=Z3E E t x:=by
 unfold wH Z3E
 by_cases hs:Un x=true
 ·obtain⟨s,_,h⟩:=ZgX hs;rw[h,if_pos hs]
 ·rw[if_neg hs];have:=ZhR q (by simpa using hs)
  grind
theorem ZAZ {E:Env} {H:BI U} {x:SV U.Ty} {n:Nat} {L:Type} {k:Nat->Tr U L} {y:L} (hl:(OU H x k).A7 y) (h:Z4t E H x n=true):FD (BP U H) (AY U x) n=true:=by
 unfold Z4t at h;split at h
 ·simp[AY,FD]
 ·simpa[AY,FD]using h
 ·simpa[AY,FD]using h
 ·rename_i id m;unfold OU at hl;obtain⟨t,xs,fl,q,A,C,z⟩:=IW hl;simp only[q]at h;simpa[AY,FD,z,DK]using h
 ·rename_i id off len tot;unfold OU at hl;obtain⟨t,xs,fl,q,A,C,z⟩:=IW hl;simp only[q]at h;simpa[AY,FD,z,DK]using h
 ·cases h
theorem Zui {E:Env} {H:BI U} {t:TypeId} {x:SV U.Ty} {L:Type} {k:Nat->Tr U L} {y:L} (hl:(OU H x k).A7 y) (h:Z2H E H t x=true):QM E (BP U H) t (AY U x)=true:=by
 have D:=Z32 hl;unfold Z2H at h;unfold QM;split at h
 ·rename_i hs;obtain⟨s,_,A⟩:=ZgX hs;rw[A];exact h
 ·rename_i hs;have C:=ZhR D (by simpa using hs);split
  ·simp_all
  ·split at h
   ·rename_i e _ _ _ z;split at h
    ·rename_i F q;simp only[z,q];exact ZAZ hl h
    ·cases h
   ·cases h
theorem Z3j {L:Type} {x:Option (SV U.Ty)} {q d:Nat} {k:Nat->Tr U L} {y:L} (h:(jF x q d k).A7 y):∃n,Iy (x.map (AY U)) q d=some n/\(k n).A7 y:=by
 unfold jF at h;split at h
 ·exact⟨d,rfl,h⟩
 ·rename_i v;split at h
  ·rename_i A n z;simp only[Tr.A7,decide_eq_true_eq]at h;refine⟨n.toNat,?_,h.2⟩;simp[Iy,L8 z,JL,h.1]
  ·simp[Tr.A7]at h
theorem ZCm {E:Env} {H H' : BI U} {t:TypeId} {x y:SV U.Ty} {Y z mx:Option (SV U.Ty)} (h:(sliceT E H t x Y z mx).A7 (y,H')) :
  Jp E (BP U H) t (AY U x) (Y.map (AY U)) (z.map (AY U)) (mx.map (AY U))=some (AY U y,BP U H'):=by
 unfold sliceT at h;unfold Jp;split at h
 ·rename_i q;have hl:=h;have S:=Z32 hl;rw[if_pos (Zui hl q)];obtain⟨n,Q,O⟩:=ZgB hl;rw[Q];obtain⟨hh,A,hb⟩:=Z3j O;obtain⟨l,C,hc⟩:=Z3j hb;simp only[A,C];clear h O hb;revert hc;intro h;split at h
  ·rename_i m;split at h
   ·simp[Tr.A7]at h
   ·rename_i xh;obtain⟨kk,M,hd⟩:=Z3j h;clear h;revert hd;intro h;simp only[Tr.A7,beq_iff_eq]at h;obtain⟨rfl,h⟩:=h;simp only[Option.map_some,Iy]at M;simp only[Option.map_some,M];split at h
    ·rename_i e xs;simp only[Tr.A7,Prod.mk.injEq]at h;obtain⟨rfl,rfl⟩:=h;simp[AY,elemsOf,List.map_take,List.map_drop]
    ·rename_i e xs;simp only[Tr.A7,Prod.mk.injEq]at h;obtain⟨rfl,rfl⟩:=h;simp[AY,elemsOf,List.map_take,List.map_drop]
    ·rename_i id n';obtain⟨e,xs,fl,D,N,F,G⟩:=IW h;simp only[Tr.A7,Prod.mk.injEq]at F;obtain⟨rfl,rfl⟩:=F;subst N;have hg:(BP U H).getD id default=DK U (.row e xs fl):=by simp[List.getD,NH,D]
     have I:elemsOf (BP U H) (.Bl id 0 xs.length xs.length)=some (xs.map (U.enc e)):=by
      simp only[elemsOf,G];simp only[DK,Nat.zero_add,Nat.le_refl,decide_true,Bool.and_self,if_true,List.drop_zero];rw[List.take_of_length_le (by simp)]
     simp only[AY,I,if_true,hg];simp only[DK,Option.some.injEq,Prod.mk.injEq];refine⟨by simp[List.map_take,List.map_drop],?_⟩;rw[Wu H [id] (by intro i z;simp at z;subst z;exact⟨_,_,_,D⟩)]
    ·simp[Tr.A7]at h
  ·simp only[Option.map_none];split at h
   ·simp only[Tr.A7,Prod.mk.injEq]at h;obtain⟨rfl,rfl⟩:=h;simp[AY]
   ·simp only[Tr.A7,Prod.mk.injEq]at h;obtain⟨rfl,rfl⟩:=h;simp[AY,List.map_take,List.map_drop]
   ·simp only[Tr.A7,Prod.mk.injEq]at h;obtain⟨rfl,rfl⟩:=h;simp[AY,List.map_take,List.map_drop]
   ·rename_i id n';have J:n=n' :=by
     unfold OU at hl;obtain⟨e,xs,fl,D,N,F,G⟩:=IW hl;simpa[AY,lenOf,G]using Q.symm
    subst J;split at h
    ·simp only[Tr.A7,Prod.mk.injEq]at h;obtain⟨rfl,rfl⟩:=h;simp only[Option.map_none,Iy,Option.some.injEq]at A C;subst A;subst C;simp[AY]
    ·simp only[Tr.A7,Prod.mk.injEq]at h;obtain⟨rfl,rfl⟩:=h;simp[AY]
   ·simp only[Tr.A7,Prod.mk.injEq]at h;obtain⟨rfl,rfl⟩:=h;simp[AY]
   ·split at h
    ·rename_i s hs;simp only[Tr.A7,Prod.mk.injEq]at h;obtain⟨rfl,rfl⟩:=h;simp[QP hs,AY]
    ·simp[Tr.A7]at h
 ·simp[Tr.A7]at h
def OT (U:DI) (M:Ip U) (call:EO):Prop:=
 ∀g as H v H',(M g as H).A7 (v,H')->call g (BB U as) (BP U H)=some (AY U v,BP U H')
theorem KO {H H' : BI U} {T:Tr U (SV U.Ty)} {y:SV U.Ty} (h:(Jf H T).A7 (y,H')):T.A7 y/\H' = H:=by
 simp only[Jf,Eg,Tr.A7,Prod.mk.injEq]at h
 grind
theorem ZDg {E:Env} {M:Ip U} {call:EO} (O:Dw U E) (I:OT U M call) {k:Nat} {H H' : BI U} {s:List (SV U.Ty)} {c:Call} {o:Oper} {y:SV U.Ty} (G:o.op = .call c) (h:(Z53 E M k H s c).A7 (y,H')) :
  BU call E k (BP U H) (BB U s) o=some (AY U y,BP U H'):=by
 unfold BU;rw[G];simp only;unfold Z53 at h;have q:evs E (BB U s) c.args=BB U (c.args.toList.map (D6 E s)):=ZgW E s c.args.toList;split at h
 ·rename_i b hb;rw[hb];simp only;rw[q];unfold QS;split at h
  ·rename_i x t z A;rw[z,A];split at h
   ·rename_i hf;have D:=Z32 h;obtain⟨n,N,h⟩:=ZgB h;simp only[Tr.A7,Prod.mk.injEq]at h;obtain⟨rfl,rfl⟩:=h;simp only[BB,Zyq D,hf,if_true,N,Option.map_some,AY];rfl
   ·simp[Tr.A7]at h
  ·rename_i a x t u z A;rw[z,A];simp only[BB];exact ZxN h
  ·rename_i a x t u z A;rw[z,A];simp only[BB];exact ZDL h
  ·obtain⟨F,rfl⟩:=KO h;simp only[Zeo F,Option.map_some]
  ·obtain⟨F,rfl⟩:=KO h;simp only[Zeo F,Option.map_some]
  ·simp[Tr.A7]at h
 ·rename_i f hf;rw[hf];simp only;rw[Gl];split at h
  ·rename_i g first caps J
   rw[J];simp only[AY];have C:BB U first++evs E (BB U s) c.args++BB U caps=BB U (first++c.args.toList.map (D6 E s)++caps):=by
    rw[q];simp only[FU,List.map_append]
   rw[C];exact I _ _ _ _ _ h
  ·simp[Tr.A7]at h
 ·simp[Tr.A7]at h
theorem Zg3 {E:Env} {s:List (SV U.Ty)} (ps:List (Nat×Operand)):(ps.map fun(i,x)=>(i,ev E (BB U s) x))=NQ (ps.map fun(i,x)=>(i,D6 E s x)):=by
 simp[NQ,Gl]
theorem optEv {E:Env} {s:List (SV U.Ty)} (x:Option Operand):x.map (ev E (BB U s))=(x.map (D6 E s)).map (AY U):=by
 cases x<;>simp[Gl]
theorem ZHj {E:Env} {M:Ip U} {call:EO} (F:Dw U E) (hM:OT U M call) {k:Nat} {H H' : BI U} {s:List (SV U.Ty)} {o:Oper} {y:SV U.Ty} (h:(lF E M k H s o).A7 (y,H')) :
  BU call E k (BP U H) (BB U s) o=some (AY U y,BP U H'):=by
 unfold lF at h;split at h
 ·rename_i x q;simp only[Tr.A7,Prod.mk.injEq]at h;obtain⟨rfl,rfl⟩:=h;unfold BU;rw[q];simp only[Gl]
 ·rename_i q;unfold BU;rw[q];simp only;split at h
  ·rename_i e _ _ _ C;simp only[Es,Tr.A7,Prod.mk.injEq]at h;obtain⟨O,rfl,rfl⟩:=h;simp only[C,AY,Rt,DK,CJ,O];rfl
  ·simp[Tr.A7]at h
 ·rename_i x hne q;simp only[Tr.A7,Prod.mk.injEq]at h;obtain⟨rfl,rfl⟩:=h;unfold BU;rw[q];split<;>simp_all [Gl]
 ·rename_i c a b q;unfold BU;rw[q];simp only[Gl];split at h
  ·rename_i hc;simp only[Tr.A7,Prod.mk.injEq]at h;obtain⟨rfl,rfl⟩:=h;rw[hc];simp[AY]
  ·rename_i hc;simp only[Tr.A7,Prod.mk.injEq]at h;obtain⟨rfl,rfl⟩:=h;rw[hc];simp[AY]
  ·rename_i t hc;rw[hc];simp only[AY];split at h
   ·rename_i x' y' D J;simp only[Tr.A7,Prod.mk.injEq]at h;obtain⟨rfl,rfl⟩:=h;rw[U0 D,U0 J];cases t<;>simp[AY]
   ·simp only[Tr.A7,Prod.mk.injEq]at h
    grind
  ·simp[Tr.A7]at h
 ·rename_i t q;unfold BU;rw[q];simp only;split at h
  ·rename_i i I;simp only[I];split at h
   ·rename_i z hz;simp only[Es,Tr.A7,Prod.mk.injEq]at h;obtain⟨hc,rfl,rfl⟩:=h;simp only[hz,hc,and_self,if_true,AY,Rt,DK,XC]
   ·simp[Tr.A7]at h
  ·simp[Tr.A7]at h
 ·rename_i t x q;unfold BU;rw[q];simp only[Gl];split at h
  ·rename_i i I;simp only[Es,Tr.A7,Prod.mk.injEq]at h;obtain⟨⟨A,G⟩,rfl,rfl⟩:=h;simp only[I,U4 G,JY,A,QU G,and_self,if_true,AY,Rt,DK]
  ·simp[Tr.A7]at h
 ·rename_i t ps q;obtain⟨A,rfl⟩:=KO h;rw[Ol]at A;unfold BU;rw[q];simp only[Zg3,ZCh A,Option.map_some]
 ·rename_i t n ps q;unfold BU;rw[q];simp only[Zg3];exact ZqP F h
 ·rename_i t a q;obtain⟨A,rfl⟩:=KO h;unfold BU;rw[q];simp only[Gl,ZgC F A,Option.map_some]
 ·rename_i t a v q;simp only[Eg,Tr.A7,Prod.mk.injEq]at h;obtain⟨H1,A,rfl,rfl⟩:=h;unfold BU;rw[q];simp only[Gl,ZBt F A,Option.map_some];rfl
 ·rename_i x q;unfold BU;rw[q];simp only[Gl];split at h
  ·rename_i D;simp only[Tr.A7,Prod.mk.injEq]at h;obtain⟨rfl,rfl⟩:=h;simp[D,AY,Uo]
  ·rename_i D;simp only[Tr.A7,Prod.mk.injEq]at h;obtain⟨rfl,rfl⟩:=h;simp[D,AY,Uo]
  ·rename_i D;simp only[Tr.A7,Prod.mk.injEq]at h;obtain⟨rfl,rfl⟩:=h;simp[D,AY,Uo]
  ·rename_i D;simp only[Tr.A7,Prod.mk.injEq]at h;obtain⟨rfl,rfl⟩:=h;simp[D,AY,Uo]
  ·simp[Tr.A7]at h
 ·rename_i op t x z _ q;obtain⟨A,rfl⟩:=KO h;rw[Eg]at A;obtain⟨v,A,G⟩:=A;have Y:∀(c:Bool) y,(Tr.leaf (if c=true then Z4P v else v):Tr U (SV U.Ty)).A7 y->AY U y=AY U v:=fun c y J=>by
   simp only[Tr.A7]at J;subst J;split
   ·exact ZAt v
   ·rfl
  unfold BU;rw[q];simp only[Gl,ZEm A,Option.map_some,Y _ _ G]
 ·rename_i op _ x q;obtain⟨A,rfl⟩:=KO h;unfold BU;rw[q];simp only[Gl,ZI2 A,Option.map_some]
 ·rename_i src dst x q;unfold BU;rw[q];simp only[Gl];split at h
  ·rename_i hb;rw[if_pos hb];exact ZAu F h
  ·rename_i hb;rw[if_neg hb];obtain⟨A,rfl⟩:=KO h;simp only[ZDw A]
 ·rename_i t l c q;unfold BU;rw[q];simp only[Gl];split at h
  ·rename_i e _ _ _ C;simp only[C];split at h
   ·rename_i n _ m _ ei hn hm N;obtain⟨k1,S⟩:=Zfw hn;obtain⟨k2,Q⟩:=Zfw hm;simp only[S,Q,N];split at h
    ·rename_i z hz;simp only[hz];split at h
     ·rename_i y0 hy0;simp only[Es,Tr.A7,decide_eq_true_eq,Prod.mk.injEq]at h;obtain⟨⟨c1,c2,c3,c4⟩,⟨c5,c6,c7,c8⟩,rfl,rfl⟩:=h;have hd:=F.dec _ _ _ hy0;rw[XC]at hd;rw[if_pos ⟨c5,c6,c7,c8,c1,c2,c3⟩];simp only[AY,Rt,DK,CJ,c4,hd,List.map_replicate,List.length_replicate];rfl
     ·simp[Tr.A7]at h
    ·simp[Tr.A7]at h
   ·simp[Tr.A7]at h
  ·simp[Tr.A7]at h
 ·rename_i t x lo I mx q;unfold BU;rw[q];simp only[Gl,optEv];split at h
  ·rename_i n e sz by' z0 C;rw[C];exact ZA3 F h
  ·rename_i hna;split
   ·grind
   ·exact ZCm h
 ·rename_i t x q;obtain⟨A,rfl⟩:=KO h;unfold BU;rw[q];simp only[Gl,ZEL F A,Option.map_some]
 ·rename_i t x f q;obtain⟨A,rfl⟩:=KO h;rw[Ol]at A;unfold BU;rw[q];simp only[Gl,ZrB A,Option.map_some]
 ·rename_i t x f q;obtain⟨A,rfl⟩:=KO h;rw[Ol]at A;unfold BU;rw[q];simp only[Gl,ZAp A,Option.map_some]
 ·rename_i t x i q;obtain⟨A,rfl⟩:=KO h;unfold BU;rw[q];simp only[Gl,ZrL A,Option.map_some]
 ·rename_i t x i q;obtain⟨A,rfl⟩:=KO h;unfold BU;rw[q];simp only[Gl,ZC4 A,Option.map_some]
 ·rename_i x i q;unfold BU;rw[q];simp only[Gl];split at h
  ·rename_i vs Y;obtain⟨A,rfl⟩:=KO h;rw[Ol]at A;simp[Y,AY,FU,A]
  ·simp[Tr.A7]at h
 ·rename_i t m x ok q;obtain⟨A,rfl⟩:=KO h;unfold BU;rw[q];simp only[Gl,ZDT A,Option.map_some]
 ·rename_i f first caps q
  simp only[Tr.A7,Prod.mk.injEq]at h;obtain⟨rfl,rfl⟩:=h;unfold BU;rw[q];simp only[AY,evs,ZgW]
 ·rename_i c q;exact ZDg F hM q h
 ·simp[Tr.A7]at h
theorem Z3M {E:Env} {M:Ip U} {call:EO} (hU:Dw U E) (Y:OT U M call) {ops:Array Oper} {k i:Nat} {st st' : Dz U} (h:(stepT E M ops k i st).A7 st') :
  KT call E ops k i (DL U st)=some (DL U st'):=by
 unfold stepT at h;unfold KT;split at h
 ·rename_i O;simp only[Tr.A7]at h;subst h;rw[O]
 ·rename_i o O;rw[O];simp only at h ⊢;have run:∀(q:Dz U),((lF E M k q.H q.s o).andThen fun r=>Tr.leaf (⟨TG q.s o.dst r.1,r.2⟩:Dz U)).A7 st' -> ∃v H1,BU call E k (BP U q.H) (BB U q.s) o=some (v,H1)/\(⟨setSlot (BB U q.s) o.dst v,H1⟩:St)=DL U st' :=by
   intro q F;simp only[Eg,Tr.A7]at F;obtain⟨⟨v,H1⟩,G,rfl⟩:=F;exact⟨_,_,ZHj hU Y G,by simp only[DL,Zh4]⟩
  have skip:∀(q:Dz U),(Tr.leaf (⟨TG q.s o.dst .no,q.H⟩:Dz U):Tr U (Dz U)).A7 st' -> (⟨setSlot (BB U q.s) o.dst Ef,BP U q.H⟩:St)=DL U st' :=by
   intro q F;simp only[Tr.A7]at F;subst F;simp only[DL,Zh4];rfl
  unfold GV;cases S:o.guard with
  | none=>
   simp only[S]at h;obtain⟨v,H1,G,J⟩:=run st h;simp only[DL,G];rw[J];rfl
  | some jw=>
   obtain⟨j,z⟩:=jw;simp only[S]at h;split at h
   ·simp[Tr.A7]at h
   ·rename_i d hd;simp only[hd];rw[show (DL U st).s.getD d .und=AY U (st.s.getD d .und) from WW st.s d];have C:∀(b:Bool) (q:Dz U),DL U q=DL U st->AY U (st.s.getD d .und) = .lit (.bool b) ->
      (if b==z then ((lF E M k q.H q.s o).andThen fun r=>Tr.leaf (⟨TG q.s o.dst r.1,r.2⟩:Dz U)) else (Tr.leaf (⟨TG q.s o.dst .no,q.H⟩:Dz U):Tr U (Dz U))).A7 st' ->
      (match (match PI (AY U (st.s.getD d .und)) z with
       | none=>none
       | some false=>some (Ef,(DL U st).H)
       | some true=>BU call E k (DL U st).H (DL U st).s o) with
      | some (v,H)=>some (⟨setSlot (DL U st).s o.dst v,H⟩:St)
      | none=>none)=some (DL U st'):=by
     intro b q F hv Q;rw[hv,<- F];simp only[PI];split at Q
     ·rename_i hb;obtain⟨v,H1,G,J⟩:=run q Q;rw[hb];simp only[DL,G];exact congrArg some J
     ·rename_i hb;have:=skip q Q;rw[show (b==z)=false by simpa using hb];simp only[DL];exact congrArg some this
    split at h
    ·rename_i hs;rw[hs];have:=skip st h;simp only[AY,PI,DL];exact congrArg some this
    ·rename_i hs;refine C true st rfl (by rw[hs];rfl) ?_;cases z<;>exact h
    ·rename_i hs;refine C false st rfl (by rw[hs];rfl) ?_;cases z<;>exact h
    ·rename_i b hs;have A:∀I,b=I -> DL U (⟨st.s.set d (.lit (.bool I)),st.H⟩:Dz U)=DL U st:=by
      rintro I rfl
      simp only[DL,St.mk.injEq,and_true];rw[FU,FU,List.map_set];apply List.ext_getElem?;intro n;rw[List.getElem?_set];split
      ·rename_i N;subst N;split
       ·rename_i D;simp only[List.length_map]at D;have:st.s.getD d .und=st.s[d]:=by simp[List.getD,D]
        rw[this]at hs;simp[D,hs,AY]
       simp_all
      ·rfl
     simp only[Tr.A7]at h;rcases h with ⟨rfl,h⟩|⟨rfl,h⟩
     ·refine C true _ (A true rfl) (by rw[hs];rfl) ?_;cases z<;>exact h
     ·refine C false _ (A false rfl) (by rw[hs];rfl) ?_;cases z<;>exact h
    ·simp[Tr.A7]at h
theorem ZE4 {E:Env} {M:Ip U} {call:EO} (D:Dw U E) (C:OT U M call) {ops:Array Oper}:∀{q:List Nat} {st st' : Dz U},(opsT E M ops q st).A7 st' -> Nl call E ops q (DL U st)=some (DL U st'):=by
 intro q;induction q with
 | nil=>intro st st' h;simp only[opsT,Tr.A7]at h;subst h;rfl
 | cons i q F=>
  intro st st' h;simp only[opsT,Eg]at h;obtain⟨G,z,A⟩:=h;have:=Z3M D C z;simp only[Nl,stepD];rw[show (DL U st).H.length=st.H.length from UY st.H,this];exact F A
theorem ZfP {E:Env} {s:List (SV U.Ty)} {o:Oper}:Ea E (BB U s) o=jL E s o:=by
 unfold Ea jL;congr 1;funext x;rw[Gl,ZCd]
theorem Zzg {H:BI U} {a:SV U.Ty} {k:Nat} (h:Z44 H a k=true):PH (BP U H) (AY U a) k=true:=by
 unfold Z44 at h;split at h
 ·rename_i id i off tot;simp only[Bool.and_eq_true,beq_iff_eq]at h;obtain⟨z,q⟩:=h;split at q
  ·rename_i e n x hb;simp only[beq_iff_eq]at q;simp only[AY,PH,z,beq_self_eq_true,Bool.true_and,Dt,NH];rw[<- z,hb];simp[DK,CJ,q]
  ·cases q
 ·rename_i id n;simp only[Bool.and_eq_true,beq_iff_eq]at h;obtain⟨z,q⟩:=h;split at q
  ·rename_i t xs fl hb;simp only[AY,PH,z,beq_self_eq_true,Bool.true_and,NH];rw[<- z,hb];simp[DK]
  ·cases q
 ·cases h
theorem ZAs {base k:Nat} {s0:List (SV U.Ty)} {t:Nat⊕Nat} (h:wV base s0 t=some k):S9 base (BB U s0) t=some k:=by
 cases t with
 | inl j=>exact h
 | inr d=>
  unfold wV at h;unfold S9;have:(BB U s0).getD d .und=AY U (s0.getD d .und):=by
   rw[FU];simp only[List.getD,List.getElem?_map];cases s0[d]?<;>rfl
  simp only at h ⊢;rw[this];split at h
  ·rename_i q;rw[q];exact h
  ·rename_i q;rw[q];exact h
  ·cases h
theorem ZDJ {E:Env} {ms:List Nat} {lt:List (Nat×(Nat⊕Nat))} {s0:List (SV U.Ty)} {base i:Nat} {s:List (SV U.Ty)} {H:BI U} {o:Oper} (h:Z4M E ms lt s0 base i s H o=true):Ho E ms lt (BB U s0) base i (BB U s) (BP U H) o=true:=by
 unfold Z4M at h;unfold Ho;rw[List.all_eq_true]at h ⊢;intro p hp;have h:=h p hp;cases q:wV base s0 p.2 with
 | none=>rw[q]at h;cases h
 | some k=>
  rw[q]at h;simp only at h;rw[ZAs q];simp only;have:addrOf E (BB U s) o=AY U (Z49 E s o):=by
   unfold addrOf Z49;cases QT o<;>first|exact Gl ..|rfl
  rw[this,ZfP];split
  ·rename_i z;rw[if_pos z]at h;exact Zzg h
  simp_all
theorem ZCE (v:SV U.Ty):yM (AY U v)=Zi5 v:=by cases v<;>rfl
theorem ZC9 {E:Env} {s:List (SV U.Ty)} {o:Oper} (h:Z4u E s o=true):quietAt E (BB U s) o=true:=by
 unfold Z4u at h;unfold quietAt;cases z:o.op with
 | call c=>
  simp only[z]at h;simp only;cases q:c.callee with
  | value f=>
   cases f with
   | tmp t=>
    simp only[q]at h;simp only;rw[WW];cases C:(E.quiet&&o.type != 0) with
    | false=>rfl
    | true=>
     simp only[C,Bool.not_true,Bool.false_or]at h ⊢;cases A:s.getD t .und with
     | fn g a b=>
      rw[A]at h;simp only[Z4y,Bool.and_eq_true]at h;simp only[AY,wZ,Bool.and_eq_true];refine⟨h.1,?_⟩;rw[FU,FU,<- List.map_append,List.all_map];rw[List.all_eq_true]at h ⊢;intro x D;simp only[Function.comp,ZCE];exact h.2 x D
     | _=>rw[A]at h;simp[Z4y]at h
   | _=>rfl
  | _=>rfl
 | _=>rfl
theorem ZBb {E:Env} {M:Ip U} {call:EO} (F:Dw U E) (D:OT U M call) {ops:Array Oper} {ms:List Nat} {lt:List (Nat×(Nat⊕Nat))} {s0:List (SV U.Ty)} {base m i:Nat} {st st' : Dz U} (h:(Z4g E M ops ms lt s0 base m i st).A7 st') :
  Ik call E ops ms lt (BB U s0) base m i (DL U st)=some (DL U st'):=by
 unfold Z4g at h;unfold Ik;split at h
 ·rename_i C;simp only[Tr.A7]at h;subst h;rw[C]
 ·rename_i o C;rw[C];simp only[Es]at h ⊢;obtain⟨I,q,h⟩:=h;rw[Bool.and_eq_true,Bool.and_eq_true]at q;obtain⟨⟨G,z⟩,A⟩:=q;have q :=And.intro z A;rw[show quietAt E (DL U st).s o=true from ZC9 G,Bool.and_true];rw[show Ea E (DL U st).s o=jL E st.s o from ZfP,show (DL U st).H.length=st.H.length from UY st.H,if_pos (by rw[I,Bool.true_and,Bool.and_eq_true];exact⟨ZDJ q.1,q.2⟩)];split at h
  ·rename_i hc;rw[if_pos hc];rw[show (DL U st).H[base+i]? = (st.H[base+i]?).map (DK U) from NH _ _];split at h
   ·rename_i b hb;rw[hb];split at h
    ·rename_i J;have:b = .dead:=by cases b<;>simp_all [ZhV]
     subst this;simp only[Option.map_some,DK,SB,Bool.false_eq_true,if_false];exact Z3M F D h
    ·simp[Tr.A7]at h
   ·simp[Tr.A7]at h
  ·rename_i hc;rw[if_neg hc];exact Z3M F D h
theorem ZyV {E:Env} {M:Ip U} {call:EO} (D:Dw U E) (C:OT U M call) {ops:Array Oper} {ms:List Nat} {lt:List (Nat×(Nat⊕Nat))} {s0:List (SV U.Ty)} {base m:Nat}:∀{q:List Nat} {st st' : Dz U},(jA E M ops ms lt s0 base m q st).A7 st' ->
  NR call E ops ms lt (BB U s0) base m q (DL U st)=some (DL U st'):=by
 intro q;induction q with
 | nil=>intro st st' h;simp only[jA,Tr.A7]at h;subst h;rfl
 | cons i q F=>
  intro st st' h;simp only[jA,Eg]at h;obtain⟨G,z,A⟩:=h;simp only[NR,ZBb D C z];exact F A
theorem ZDa {E:Env} {M:Ip U} {call:EO} (z:Dw U E) (q:OT U M call) {ops:Array Oper} {st st' : Dz U} (h:(yK E M ops st).A7 st'):Ut call E ops (DL U st)=some (DL U st'):=by
 unfold yK at h;unfold Ut;have:=ZyV z q h;rw[show (DL U st).H.length=st.H.length from UY st.H];rw[<- this];congr 1;simp[DL,BP,DK]
end
section
variable {U:DI}
mutual
def IG:SV U.Ty->List Nat
 | .all id _=>[id]
 | .Bl id _ _ _=>[id]
 | .ptr id _ _ _=>[id]
 | .agg cs=>QX cs
 | .BK cs=>QX cs
 | .O3 cs=>QX cs
 | .fn _ a b=>QX a++QX b
 | .raw v=>Ei v
 | _=>[]
def QX:List (SV U.Ty)->List Nat
 | []=>[]
 | x::xs=>IG x++QX xs
end
mutual
def GR (q:Nat->Nat):SV U.Ty->SV U.Ty
 | .all id n=>.all (q id) n
 | .Bl id off len tot=>.Bl (q id) off len tot
 | .ptr id i off tot=>.ptr (q id) i off tot
 | .agg cs=>.agg (OO q cs)
 | .BK cs=>.BK (OO q cs)
 | .O3 cs=>.O3 (OO q cs)
 | .fn f a b=>.fn f (OO q a) (OO q b)
 | .raw v=>.raw (GI q v)
 | v=>v
def OO (q:Nat->Nat):List (SV U.Ty)->List (SV U.Ty)
 | []=>[]
 | x::xs=>GR q x::OO q xs
end
mutual
theorem ZfT:∀x:SV U.Ty,Ei (AY U x)=IG x
 | .all _ _=>by simp only[AY,Ei,IG]
 | .Bl _ _ _ _=>by simp only[AY,Ei,IG]
 | .ptr _ _ _ _=>by simp only[AY,Ei,IG]
 | .agg cs=>by simp only[AY,Ei,IG];exact U1 cs
 | .BK cs=>by simp only[AY,Ei,IG];exact U1 cs
 | .O3 cs=>by simp only[AY,Ei,IG];exact U1 cs
 | .fn _ a b=>by simp only[AY,Ei,IG];rw[U1 a,U1 b]
 | .raw v=>by simp only[AY,IG]
 | .lit _=>by simp only[AY,Ei,IG]
 | .si _ _=>by simp only[AY,Ei,IG]
 | .sb _=>by simp only[AY,Ei,IG]
 | .ss _=>by simp only[AY,Ei,IG]
 | .nil _=>by simp only[AY,Ei,IG]
 | .sl _ _=>by simp only[AY,Ei,IG]
 | .DT _ _=>by simp only[AY,Ei,IG]
 | .CX _ _ _ _=>by simp only[AY,Ei,IG]
 | .VI _ _ _=>by simp only[AY,Ei,IG]
 | .no=>by simp only[AY,Ei,IG]
 | .und=>by simp only[AY,Ei,IG]
theorem U1:∀xs:List (SV U.Ty),Dx (BB U xs)=QX xs
 | []=>rfl
 | x::xs=>by simp only[BB,Dx,QX];rw[ZfT x,U1 xs]
end
mutual
theorem vZ (q:Nat->Nat):∀x:SV U.Ty,AY U (GR q x)=GI q (AY U x)
 | .all _ _=>by simp only[AY,GI,GR]
 | .Bl _ _ _ _=>by simp only[AY,GI,GR]
 | .ptr _ _ _ _=>by simp only[AY,GI,GR]
 | .agg cs=>by simp only[AY,GI,GR];rw[QN q cs]
 | .BK cs=>by simp only[AY,GI,GR];rw[QN q cs]
 | .O3 cs=>by simp only[AY,GI,GR];rw[QN q cs]
 | .fn _ a b=>by simp only[AY,GI,GR];rw[QN q a,QN q b]
 | .raw v=>by simp only[AY,GR]
 | .lit _=>by simp only[AY,GI,GR]
 | .si _ _=>by simp only[AY,GI,GR]
 | .sb _=>by simp only[AY,GI,GR]
 | .ss _=>by simp only[AY,GI,GR]
 | .nil _=>by simp only[AY,GI,GR]
 | .sl _ _=>by simp only[AY,GI,GR]
 | .DT _ _=>by simp only[AY,GI,GR]
 | .CX _ _ _ _=>by simp only[AY,GI,GR]
 | .VI _ _ _=>by simp only[AY,GI,GR]
 | .no=>by simp only[AY,GI,GR]
 | .und=>by simp only[AY,GI,GR]
theorem QN (q:Nat->Nat):∀xs:List (SV U.Ty),BB U (OO q xs)=IC q (BB U xs)
 | []=>rfl
 | x::xs=>by simp only[BB,IC,OO];rw[vZ q x,QN q xs]
end
def retS (e sz:Nat) (H:BI U):SV U.Ty->Tr U (SV U.Ty×BI U)
 | .nil _=>.when (U.BA e=sz) (.leaf (.sl e [],H))
 | y=>.leaf (y,H)
def Ul:Fk->BI U->SV U.Ty->Tr U (SV U.Ty×BI U)
 | .s e sz,H,x=>(OW H x).andThen fun y=>retS e sz (Qi H (PO x)) y
 | .own e sz,H,x=>(match x with
  | .nil _=>.when (U.BA e=sz) (.leaf (.all H.length 0,H++[.row e [] none]))
  | .all id n=>.leaf (.all id n,H)
  | _=>.fail)
 | .keep,H,x=>.leaf (x,H)
 | .drop,H,_=>.leaf (.und,H)
def Uj:List Fk->BI U->List (SV U.Ty)->Tr U (List (SV U.Ty)×BI U)
 | [],H,[]=>.leaf ([],H)
 | f::fs,H,x::xs=>(Ul f H x).andThen fun r=>(Uj fs r.2 xs).andThen fun q=>.leaf (r.1::q.1,q.2)
 | _,_,_=>.fail
def xN (fl:List Fk) (H:BI U) (x:SV U.Ty):Tr U (SV U.Ty×BI U):=
 match x with
 | .agg cs=>(Uj fl H cs).andThen fun r=>.leaf (.agg r.1,r.2)
 | .raw _=>.fail
 | x=>match fl with
  | [f]=>Ul f H x
  | _=>.fail
def Ue:List (List Fk)->BI U->List (SV U.Ty)->Tr U (List (SV U.Ty)×BI U)
 | [],H,[]=>.leaf ([],H)
 | f::fs,H,x::xs=>(xN f H x).andThen fun r=>(Ue fs r.2 xs).andThen fun q=>.leaf (r.1::q.1,q.2)
 | _,_,_=>.fail
def Qc:Nat->List Bf->BI U->List Nat->List Nat->Tr U (BI U×List Nat)
 | 0,_,_,_,_=>.fail
 | _+1,_,H,[],seen=>.leaf (H,seen)
 | n+1,fb,H,id::q,seen=>
  if seen.contains id then Qc n fb H q seen else
  match H[id]?,fb with
  | some (.row _ _ none),.row true::z =>Qc n z H q (seen++[id])
  | some (.row _ _ _),.row false::z =>Qc n z (Qi H [id]) q (seen++[id])
  | some (.var _ _ x),.var fl::z =>(xN fl H x).andThen fun r=>(match r.2[id]? with
    | some (.var e m _)=>.when (okS r.1=true) (Qc n z (r.2.set id (.var e m r.1)) (q++IG r.1) (seen++[id]))
    | _=>.fail)
  | _,_=>.fail
def wM (q:Nat->Nat):Nq U.Ty->Nq U.Ty
 | .var e n x=>.var e n (GR q x)
 | .fvar e n x=>.fvar e n (GR q x)
 | b=>b
def X3 (H:BI U) (ids:List Nat):BI U:=ids.map fun id=>wM (ids.idxOf ·) ((H[id]?).getD .dead)
def XP (fa:List (List Fk)) (fb:List Bf) (k:Nat) (args:List (SV U.Ty)) (H:BI U):Tr U (List Nat×List (SV U.Ty)×BI U):=
 (Ue fa H args).andThen fun r=>(Qc 1000 fb r.2 (List.range k++QX r.1) []).andThen fun q=>.leaf (q.2,r.1,q.1)
def jU:BI U->List Nat->BI U->BI U
 | H,[],q=>H++q
 | H,id::ids,b::q=>jU (H.set id b) ids q
 | H,_::_,[]=>H
def iQ (H:BI U) (ids:List Nat) (q:BI U):BI U:=jU H ids (q.map (wM (Jr ids H.length)))
theorem ZFT {e sz:Nat} {H:BI U} {y:SV U.Ty} {r:SV U.Ty×BI U} (h:(retS e sz H y).A7 r) (z:∀v,y≠.raw v):AY U r.1=Gz sz (AY U y)/\r.2=H:=by
 unfold retS at h;split at h
 ·simp only[Es,Tr.A7]at h;obtain⟨q,rfl⟩:=h;simp[AY,Gz,q]
 ·simp only[Tr.A7]at h;subst h;refine⟨?_,rfl⟩;cases y with
  | nil A =>simp_all
  | raw v=>exact absurd rfl (z v)
  | _=>simp[AY,Gz]
theorem ZAz {H:BI U} {x y:SV U.Ty} (h:(OW H x).A7 y):∀v,y≠.raw v:=by
 intro v D;subst D;unfold OW at h;split at h<;>(try (simp[Tr.A7]at h;done))
 ·obtain⟨t,xs,fl,z,A,q,C⟩:=IW h;simp[Tr.A7]at q
 ·obtain⟨t,xs,fl,z,A,q,C⟩:=IW h;simp[Tr.A7]at q
theorem Zf6 {f:Fk} {H:BI U} {x:SV U.Ty} {r:SV U.Ty×BI U} (h:(Ul f H x).A7 r):I9 f (BP U H) (AY U x)=some (AY U r.1,BP U r.2):=by
 cases f with
 | s e sz=>
  simp only[Ul,Eg]at h;obtain⟨y,q,C⟩:=h;obtain⟨z,A⟩:=ZFT C (ZAz q);simp only[I9,Z3x q,Option.map_some,z,A];rw[Zga,Wu H _ (Z2q q)]
 | own e sz=>
  simp only[Ul]at h;split at h
  ·simp only[Es,Tr.A7]at h;obtain⟨D,rfl⟩:=h;simp[I9,jY,AY,BP,DK,CJ,D]
  ·simp only[Tr.A7]at h;subst h;simp[I9,jY,AY]
  ·simp[Tr.A7]at h
 | keep=>
  simp only[Ul,Tr.A7]at h;subst h;rfl
 | drop=>
  simp only[Ul,Tr.A7]at h;subst h;rfl
theorem ZAV:∀{fl:List Fk} {H:BI U} {xs:List (SV U.Ty)} {r:List (SV U.Ty)×BI U},(Uj fl H xs).A7 r->I8 fl (BP U H) (BB U xs)=some (BB U r.1,BP U r.2):=by
 intro fl;induction fl with
 | nil=>
  intro H xs r h;cases xs with
  | nil=>simp only[Uj,Tr.A7]at h;subst h;rfl
  | cons=>simp[Uj,Tr.A7]at h
 | cons f fl C=>
  intro H xs r h;cases xs with
  | nil=>simp[Uj,Tr.A7]at h
  | cons x xs=>
   simp only[Uj,Eg,Tr.A7]at h;obtain⟨p,z,q,A,rfl⟩:=h;simp only[BB,I8,Zf6 z,C A]
theorem ZfE {fl:List Fk} {H:BI U} {x:SV U.Ty} {r:SV U.Ty×BI U} (h:(xN fl H x).A7 r):KU fl (BP U H) (AY U x)=some (AY U r.1,BP U r.2):=by
 unfold xN at h;split at h
 ·rename_i cs;simp only[Eg,Tr.A7]at h;obtain⟨p,q,rfl⟩:=h;simp only[AY,KU,ZAV q,Option.map_some]
 ·simp[Tr.A7]at h
 ·rename_i A C;split at h
  ·rename_i f;have q:=Zf6 h;unfold KU;split
   ·rename_i cs z;exfalso;cases x<;>simp_all [AY]
   ·exact q
  ·simp[Tr.A7]at h
theorem ZBX:∀{fl:List (List Fk)} {H:BI U} {xs:List (SV U.Ty)} {r:List (SV U.Ty)×BI U},(Ue fl H xs).A7 r->Ih fl (BP U H) (BB U xs)=some (BB U r.1,BP U r.2):=by
 intro fl;induction fl with
 | nil=>
  intro H xs r h;cases xs with
  | nil=>simp only[Ue,Tr.A7]at h;subst h;rfl
  | cons=>simp[Ue,Tr.A7]at h
 | cons f fl C=>
  intro H xs r h;cases xs with
  | nil=>simp[Ue,Tr.A7]at h
  | cons x xs=>
   simp only[Ue,Eg,Tr.A7]at h;obtain⟨p,z,q,A,rfl⟩:=h;simp only[BB,Ih,ZfE z,C A]
theorem ZCc:∀{n:Nat} {fb:List Bf} {H:BI U} {q seen:List Nat} {r:BI U×List Nat},(Qc n fb H q seen).A7 r->KY n fb (BP U H) q seen=some (BP U r.1,r.2):=by
 intro n;induction n with
 | zero=>intro fb H q seen r h;simp[Qc,Tr.A7]at h
 | succ n G=>
  intro fb H q seen r h;cases q with
  | nil=>simp only[Qc,Tr.A7]at h;subst h;rfl
  | cons id q=>
   unfold Qc at h;unfold KY
   by_cases D:seen.contains id=true
   ·grind
   ·rw[if_neg D]at h ⊢;rw[NH];split at h
    ·rename_i t xs A hb;rw[hb];simp only[Option.map_some,DK,Bool.and_self,if_true];exact G h
    ·rename_i t xs fl A hb;rw[hb];simp only[Option.map_some,DK,Bool.and_self,if_true,Bool.false_eq_true,if_false];rw[<- Wu H [id] (fun i I=>by simp at I;subst I;exact⟨t,xs,fl,hb⟩)];exact G h
    ·rename_i e m x fl A hb;rw[hb];simp only[Eg]at h;obtain⟨p,J,z⟩:=h;simp only[Option.map_some,DK,CJ,Bool.not_false,Bool.and_self,if_true,ZfE J,NH];split at z
     ·rename_i M N O C;simp only[Es]at z;obtain⟨F,z⟩:=z;rw[C];simp only[Option.map_some,DK,CJ,QU F,if_true];have:=G z;rw[Q3]at this;simp only[DK,CJ]at this;rw[ZfT];exact this
     ·simp[Tr.A7]at z
    ·simp[Tr.A7]at h
theorem vP {fa:List (List Fk)} {fb:List Bf} {k:Nat} {args:List (SV U.Ty)} {H:BI U} {r:List Nat×List (SV U.Ty)×BI U} (h:(XP fa fb k args H).A7 r):pack fa fb k (BB U args) (BP U H)=some (r.1,BB U r.2.1,BP U r.2.2):=by
 simp only[XP,Eg,Tr.A7]at h;obtain⟨p,z,q,A,rfl⟩:=h;simp only[pack,ZBX z,U1,ZCc A]
theorem Zb5 (q:Nat->Nat) (b:Nq U.Ty):DK U (wM q b)=Gs q (DK U b):=by
 cases b<;>simp[wM,DK,Gs,CJ,SB,IC,vZ]
theorem uI (H:BI U) (ids:List Nat):BP U (X3 H ids)=JP (BP U H) ids:=by
 simp only[BP,X3,JP,List.map_map];apply List.map_congr_left;intro id _;simp only[Function.comp,Zb5];congr 1;rw[List.getElem?_map];cases H[id]?<;>rfl
theorem ZCo:∀(H:BI U) (ids:List Nat) (q:BI U),BP U (jU H ids q)=Qr (BP U H) ids (BP U q):=by
 intro H ids;induction ids generalizing H with
 | nil=>intro q;simp[jU,Qr,BP]
 | cons id ids z=>
  intro q;cases q with
  | nil=>rfl
  | cons b q=>
   simp only[jU,z,Q3];rfl
theorem Ztn (H:BI U) (ids:List Nat) (q:BI U):BP U (iQ H ids q)=Ov (BP U H) ids (BP U q):=by
 simp only[iQ,Ov,ZCo];congr 1;simp only[BP,List.map_map];apply List.map_congr_left;intro b _;simp[Function.comp,Zb5]
def XN:List (SV U.Ty)->List FuncId
 | []=>[]
 | .fn f _ _::vs=>f::XN vs
 | .raw v::vs=>N8 [v]++XN vs
 | _::vs=>XN vs
theorem Zyu (v:V) (vs:List V):N8 (v::vs)=N8 [v]++N8 vs:=by
 cases v<;>simp[N8]
theorem ZyG:∀(vs:List (SV U.Ty)),N8 (BB U vs)=XN vs:=by
 intro vs;induction vs with
 | nil=>rfl
 | cons v vs q=>
  simp only[BB];rw[Zyu,q];cases v<;>simp[AY,N8,XN]
end
end Go.Proofs.YtjodhcdmhobmoaaGreatDoor.Le
