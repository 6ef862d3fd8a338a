/- A part of it. -/
import Derived.Test.YtjodhcdmhobmoaaGreatDoorVL5
import Derived.LaidMore
import Derived.MakeChecks
import Derived.FnData
import Derived.OpenShut
set_option linter.unusedVariables false
set_option linter.unusedSimpArgs false
namespace Go.Proofs.YtjodhcdmhobmoaaGreatDoor.Le
def Zhk (n by' : Nat):List V->Option V
 | [.sl false e xs]=>if e=n/\xs.length*by' <= lim/\xs.length<=maxLen then some (.sl false e xs) else none
 | _=>none
def zN (cl:List (Nat×Nat×Nat×Nat)):FuncId->Option (List V->Option V):=fun g=>(cl.find? fun p=>p.1==g).map fun p=>Zhk p.2.1 p.2.2.1
def Z5S (cl:List (Nat×Nat×Nat×Nat)):FuncId->Option TypeId:=fun g=>(cl.find? fun p=>p.1==g).map fun p=>p.2.2.2
structure TB (P:Program) (f n by' e:Nat):Prop where
 entered:Nj P f
 pure:∀(E:Env) (xs:List V),xs.length*by' <= lim->xs.length<=maxLen->Pe P E f [.sl false n xs] (.sl false n xs)
 own:∀(E:Env) (xs:List V),xs.length*by' <= lim->xs.length<=maxLen->xN P E f [.sl false n xs] e n xs
theorem ZA1 {P:Program} {E:Env} {cl:List (Nat×Nat×Nat×Nat)} (G:E.env=zN cl) (I:E.own=Z5S cl) (A:∀f k,E.hm f k=none) (C:∀f,E.maps f=none) (h:∀p∈cl,TB P p.1 p.2.1 p.2.2.1 p.2.2.2):TF P E:=by
 refine⟨?_,fun f key hs h=>(by rw[A]at h;cases h),fun f l h=>by rw[C]at h;cases h⟩;intro f F q;rw[G]at q;unfold zN at q;cases hp:cl.find? (fun p=>p.1==f) with
 | none=>simp[hp]at q
 | some p=>
  simp only[hp,Option.map_some,Option.some.injEq]at q;subst q;have hm:=h p (List.mem_of_find?_eq_some hp);have hf:p.1=f:=by simpa using List.find?_some hp
  rw[hf]at hm;have z:E.own f=some p.2.2.2:=by rw[I];unfold Z5S;rw[hp];rfl
  refine⟨hm.entered,fun as r _ hr=>?_⟩;rw[z];intro sz xs D;subst D;unfold Zhk at hr;split at hr
  ·split at hr
   ·rename_i hc;simp only[Option.some.injEq,V.sl.injEq]at hr;obtain⟨_,rfl,rfl⟩:=hr;rw[hc.1];exact hm.own E _ hc.2.1 hc.2.2
   ·cases hr
  ·cases hr
noncomputable def EC (P:Program) (gl:Nat->Option (List V)) (fs:List FuncId) (pu:FuncId->Bool) (bad:List (Nat×Nat):=[]) (cl:List (Nat×Nat×Nat×Nat):=[]):Env:=
 { PR P pu (zN cl) with
  func:=fun g=>if fs.contains g then P.funcs[g]? else none
  Ey:=gl
  own:=Z5S cl
  calm:=fun f id=>!(bad.any fun p=>p.1==f&&p.2==id) }
noncomputable def xK (P:Program) (gl:Nat->Option (List V)) (fs:List FuncId) (pu:FuncId->Bool) (bad:List (Nat×Nat):=[]) (cl:List (Nat×Nat×Nat×Nat):=[]):Bool:=
 fs.all fun g=>match P.funcs[g]? with
  | some fn=>!(fn.name == "runtime.NumGoroutine")&&(match fn.body with|some c=>Ef (EC P gl fs pu bad cl) g c|none=>true)
  | none=>true
theorem Zi2 {P:Program} {gl:Nat->Option (List V)} {fs:List FuncId} {pu:FuncId->Bool} {bad:List (Nat×Nat)} {cl:List (Nat×Nat×Nat×Nat)} (A:P.follows .mixedOrders=true) (q:xK P gl fs pu bad cl=true):DV (EC P gl fs pu bad cl):=by
 have q:=List.all_eq_true.1 q;refine⟨fun t i h=>h,?_,A,?_,?_,?_,?_,fun t ks h=>h,?_⟩
 ·intro g fn h;simp only[EC]at h;split at h
  ·rename_i D;have:=q g (by simpa using D);rw[h]at this;simp only[Bool.and_eq_true,Bool.not_eq_true']at this;exact⟨h,this.1⟩
  ·cases h
 ·intro g fn c h hb;simp only[EC]at h
  grind
 ·intro t k h;simp only[EC,PR]at h;split at h
  ·rename_i d z;simp only[Option.some.injEq]at h;subst h;exact z
  ·cases h
 ·intro t h;simp only[EC,PR]at h;split at h
  ·rename_i z;exact z
  ·cases h
 ·intro t h;simp only[EC,PR]at h;split at h
  ·rename_i z;exact z
  ·cases h
 ·intro t h;simp only[EC,PR]at h;split at h
  ·rename_i e C;split at h
   ·rename_i z;exact⟨e,C,z⟩
   ·cases h
  ·cases h
theorem Zcj {H:Type} {enc:TypeId×Value->H} {P:Program} {w:World} {base:Nat} {q:Nat->Bool} {held:Bool}:∀{ts:List TypeId} {vs:List Value} {z:List (DataW H)} {ps:List MemPlace},DataW.TrodAll enc P w base q held ts vs z ps->z.length=ts.length
 | [],[],[],_,_=>rfl
 | _::_,_::_,_::_,_,⟨_,_,_,h,_⟩=>congrArg (· + 1) (Zcj h)
theorem ZAl {U:DD} {P:Program} {gl:Nat->Option (List V)} {fs:List FuncId} {pu:FuncId->Bool} {bad:List (Nat×Nat)} {cl:List (Nat×Nat×Nat×Nat)} {E0:Env} (D:E0.Ey=gl) (C:P.follows .mixedOrders=true) (F:xK P gl fs pu bad cl=true) (G:∀p∈cl,TB P p.1 p.2.1 p.2.2.1 p.2.2.2) {f:FuncId} (I:zN cl f=none) (hf:fs.contains f=true) (hp:pu f=true) {fn:Func} (A:P.funcs[f]? = some fn)
  (hb:fn.body.isNone=false) {n:Nat} {m:Aj U} (M:m.ts=[]) {a:U.Ty m.rt} (hm:∀x,m.fn x=some a) (h:(Eu (EC P gl fs pu bad cl) (n+1) f [] []).map (·.1)=some (U.enc m.rt a)):Ai P E0 f m:=by
 have N:=Zi2 C F;have z:(fn.name == "runtime.NumGoroutine")=false:=(N.func f fn (by simp only[EC,hf,if_true];exact A)).2;refine⟨⟨fn,A,hb,z⟩,fun x a' hx=>?_⟩;rw[hm x]at hx;cases hx;cases hc:Eu (EC P gl fs pu bad cl) (n+1) f [] [] with
 | none=>simp[hc]at h
 | some Y=>
  obtain⟨r,H'⟩:=Y;simp only[hc,Option.map_some,Option.some.injEq]at h;subst h;have J:=Zzn N rfl (ZA1 rfl rfl (fun _ _=>rfl) (fun _=>rfl) G) hp I rfl rfl hc;have O:Hf m.ts x=[]:=by
   have hl:=Z9T x;exact List.eq_nil_of_length_eq_zero (by rw[hl,congrArg List.length M];rfl)
  rw[O];intro fz w vs q Q hr;exact J fz w vs q (fun g r S=>Q g r (by rw[D];exact S)) hr
end Go.Proofs.YtjodhcdmhobmoaaGreatDoor.Le
namespace Go.Proofs.YtjodhcdmhobmoaaGreatDoor.Le
open Go.RowKit (Below)
def RG:Operand:=.const (.slice none 0 0)
def Z52 (t:TypeId):Code:=.seq (.region 2 #[.mk (some 2) (.assign RG) t "slices.go:358" #[] none] false) .ret
def yA (t:TypeId):Code:=.seq (.region 3 #[.mk (some 5) (.buildSlice t 0 #[]) t "slices.go:362" #[] none,.mk (some 6) (.move (.tmp 0)) t "slices.go:362" #[] none,
 .mk (some 7) (.call (.mk (.builtin .append) #[.tmp 5,.tmp 6] #[t,t])) t "slices.go:362" #[.mk 0 .data,.mk 1 .data] none,
 .mk (some 2) (.assign (.tmp 7)) t "slices.go:362" #[.mk 2 .data,.mk 2 .chain,.mk 0 .phase,.mk 1 .phase,.mk 2 .phase] none] false) .ret
def kF (t tb:TypeId):Array Oper:=#[.mk (some 3) (.move (.tmp 0)) t "slices.go:357" #[] none,.mk (some 4) (.binOp .eql t (.tmp 3) RG t) tb "slices.go:357" #[.mk 0 .data] none]
def yQ (t tb:TypeId):Code:=
 .seq (.region 0 #[.mk (some 2) (.assign RG) t "slices.go:355" #[] none] false) (.seq (.seq (.region 1 (kF t tb) false) (.cond (.tmp 4) (Z52 t) .skip)) (yA t))
section
variable {P:Program} {E:Env} {B:Nat} {w0:Start} {call:EM}
theorem ZrH (w:World) (d:Nat) (t e:TypeId) (a:Option Addr) (l c:Nat) (h:P.underlying t=some (.slice e)):(Op.equalIn (d+1) t (.slice a l c) (.slice none 0 0)).run P w = .ok a.isNone w:=by
 cases a<;>simp[Op.equalIn,run_underlying h]
theorem ZyA (w:World) (t e:TypeId) (a:Option Addr) (l c:Nat) (h:P.underlying t=some (.slice e)):(Op.equal t (.slice a l c) (.slice none 0 0)).run P w = .ok a.isNone w:=ZrH w 9999 t e a l c h
theorem Zz9 {t e:TypeId} {y z:Operand} {v:Value} {w:World} (q:P.underlying t=some (.slice e)) (hv:∃a n c,v = .slice a n c/\(a=none->n=0)) :
  ∃b,(do eqGuard .eql t y z v (.slice none 0 0);binOp .eql t v (.slice none 0 0)).run P w = .ok (.bool b) w/\(b=true->∃c,v = .slice none 0 c):=by
 obtain⟨a,n,c,rfl,A⟩:=hv;refine⟨a.isNone,?_,fun h=>?_⟩
 ·simp only[Sem.run_bind];rw[Uf _ _ _ _ _ _ (by simp) (by simp)];simp[binOp,ZyA w t e a n c q]
 simp_all
theorem ZCh (hE:DV E) (hP:E.P=P) (D:KA P E B w0 call) {id:Nat} {t tb e n:TypeId} (ht:P.underlying t=some (.slice e)) {st:St} {σ:Sg} {a:Act} {w:World} (hr:FU E B w0 σ st a w)
  {xs:List V} (hx:ev E st.s (.tmp 0) = .sl false n xs) (S:3<st.s.length) {Q:Exit->Act->World->Prop}
  (hq:∀b M,FU E B w0 σ ⟨setSlot (setSlot st.s (some 3) (.sl false n xs)) (some 4) (.lit (.bool b)),st.H⟩ M w->(b=true->xs=[])->Q .normal M w) :
  (Code.region id (kF t tb) false).wp P Q a w:=by
 refine wp_region ?_;show wpOps P (kF t tb) Q [0,1] a w;have hv:∃v,a.eval (.tmp 0)=v/\AV σ w [.sl false n xs] [v]:=by
  have:=En (a:=a) hr.Ey hr.slots (.tmp 0);rw[hx]at this;exact⟨_,rfl,this⟩
 obtain⟨v,hv,A⟩:=hv;rw[wpOps_cons];unfold wpOp;have O:(kF t tb)[0]? = some (.mk (some 3) (.move (.tmp 0)) t "slices.go:357" #[] none):=rfl;have N:(kF t tb)[1]? = some (.mk (some 4) (.binOp .eql t (.tmp 3) RG t) tb "slices.go:357" #[.mk 0 .data] none):=rfl;simp only[O];rw[if_pos (show Region.wanted _ _=true from rfl)];refine .inl (JS (s:=pure v) (u:=v) (w' :=w) (by unfold execOp;simp[hv]) (by simp[Sem.run_pure]) ?_);rw[wpOps_cons];unfold wpOp;simp only[N];rw[if_pos (show Region.wanted _ _=true from rfl)];have q:FU E B w0 σ ⟨setSlot st.s (some 3) (.sl false n xs),st.H⟩ (a.put (some 3) v) w:=⟨hr.inv,hr.Ey,vT hr.slots A (some 3),wX hr.calm _ _⟩;have F:(a.put (some 3) v).eval (.tmp 3)=v:=by
  have:3<a.tmps.size:=by
   have:=hr.slots.length;simp only[Array.length_toList]at this;omega
  simp[Act.put,Act.eval,this]
 have G:∃a n c,v = .slice a n c/\(a=none->n=0)/\(a=none->xs=[]):=by
  cases A with
  | Eo _=>grind
  | GI a _=>grind
  | sl b o c e' N h2 S h4 h5 h6 h7 _=>grind
 obtain⟨va,vn,vc,J,I,hvx⟩:=G;obtain⟨b,C,Y⟩:=Zz9 (P:=P) (t:=t) (e:=e) (y:=.tmp 3) (z:=RG) (w:=w) ht ⟨va,vn,vc,J,I⟩;refine .inl (JS (s:=do eqGuard .eql t (.tmp 3) RG v (.slice none 0 0);binOp .eql t v (.slice none 0 0)) (u:=.bool b) ?_ C ?_)
 ·unfold execOp;simp only[F];rfl
 ·show Q .normal _ _;refine hq b _ ⟨q.inv,q.Ey,vT q.slots (.lit rfl .nil) (some 4),wX q.calm _ _⟩ (fun h=>?_)
  simp_all
theorem Zft (hmix:P.follows .mixedOrders=true) {f:FuncId} {fn:Func} {t tb e:TypeId} {i1 i2:Nat} {iz:Option V} {ei:TI} {z:V} (hfn:P.funcs[f]? = some fn) (Q:fn.body=some (yQ t tb)) (hnt:fn.ntmps=8) (M:fn.results = #[.tmp 2])
  (hti:LK P t=some ⟨.slice e,i1,i2,iz⟩) (htu:P.underlying t=some (.slice e)) (hei:LK P e=some ei) (hez:ei.zero=some z) (hpos:0<ei.size) (hzl:z.cells.length=ei.size) (hzo:okV z=true)
  {xs:List V} (h1:xs.length*ei.bytes<=lim) (h2:xs.length<=maxLen) (fz:Nat->Nat->Prop) (w:World) (vs:List Value) (D:∀b c,fz b c->∃u,w.cell? ⟨b,c,none⟩=some u) (hr:AV (bare fz) w [.sl false ei.size xs] vs) :
  Calls P f vs.toArray w fun e' w' =>∃u σ',e' = .returned u/\Inv w.heap.size (Start.of w fz) σ' [CB true false e ei.size [],CB true false e ei.size xs] w' /\ Ext (bare fz) w σ' w' /\ AV σ' w' [.Bi 1 0 xs.length xs.length] [u]:=by
 have hck:xK P (fun _=>none) [] (fun _=>false) []=true:=rfl;have O:=Zi2 (P:=P) (gl:=fun _=>none) (fs:=[]) (pu:=fun _=>false) (bad:=[]) hmix hck;generalize C:EC P (fun _=>none) [] (fun _=>false) []=E0 at O;have hP:E0.P=P:=by rw[<- C];rfl
 have t1:E0.ti t=some ⟨.slice e,i1,i2,iz⟩:=by rw[<- C];exact hti
 have t2:E0.ti e=some ei:=by rw[<- C];exact hei
 have hcm:∀g id,E0.calm g id=true:=fun g id=>by rw[<- C];rfl
 have hI:Inv w.heap.size (Start.of w fz) (bare fz) [] w:=⟨Below.refl _ w,Nat.le_refl _,fun id L hL=>(by cases hL),fun id bx hb=>by simp at hb,fun i j b1 b2 L1 L2 g h1=>by simp at h1,D,
  fun b c hc id bx L hb=>by simp at hb,fun id bx hb=>by simp at hb,fun b c hc _=>hc,fun b hb=>hb.elim⟩
 have hg0:EH E0 (bare fz) w:=fun g r hh=>by rw[<- C]at hh;cases hh
 have q:KA P E0 w.heap.size (Start.of w fz) (Eu E0 0):=fun f args H x H' σ w vs h=>by cases h
 have A:PV E0 (Eu E0 0):=XR 0;have Y:=Z4Z (f:=f) O hP q A 0
 ·refine calls_of_wp hfn Q ?_;have I:AV (bare fz) w ([.sl false ei.size xs]++List.replicate 7 EZ) (vs.toArray++Array.replicate (fn.ntmps - vs.toArray.size) undef).toList:=by
   simp only[Array.toList_append,Array.toList_replicate,List.size_toArray];rw[<- hr.length,hnt];exact hr.append (AV.replicate _ (.no .nil))
  have hrel:FU E0 w.heap.size (Start.of w fz) (bare fz) ⟨[.sl false ei.size xs]++List.replicate 7 EZ,[]⟩ { tmps:=vs.toArray++Array.replicate (fn.ntmps - vs.toArray.size) undef,defers:=[] } w:=⟨hI,hg0,I,rfl⟩;have J:∀(s:List V),MK E0 [CB true false e ei.size [],CB true false e ei.size xs] s fn.results.toList=some (.Bi 1 0 xs.length xs.length)->∀a' w' σ',FU E0 w.heap.size (Start.of w fz) σ' ⟨s,[CB true false e ei.size [],CB true false e ei.size xs]⟩ a' w' -> Ext (bare fz) w σ' w' ->
    a'.defers=[]/\∃v,(results fn a'.tmps).run P w' = .ok v w' /\ (fun e' w' =>∃u σ',e' = Ending.returned u/\Inv w.heap.size (Start.of w fz) σ' [CB true false e ei.size [],CB true false e ei.size xs] w' /\ Ext (bare fz) w σ' w' /\ AV σ' w' [.Bi 1 0 xs.length xs.length] [u]) (.returned v) w' :=by
   intro s hx a' w' σ' F he';obtain⟨u,hu,hur⟩:=uO (P:=P) O hP F.inv F.slots hx;exact⟨F.calm,u,hu,u,σ',rfl,F.inv,he',hur⟩
  have c0:∀N,Gp (Eu E0 0) N E0 f (.region 0 #[.mk (some 2) (.assign RG) t "slices.go:355" #[] none] false) ⟨[.sl false ei.size xs]++List.replicate 7 EZ,[]⟩ =
    some (.normal,⟨[.sl false ei.size xs,EZ,.Bi 0 0 0 0,EZ,EZ,EZ,EZ,EZ],[CB true false e ei.size []]⟩):=by
   intro N;simp[Gp,OJ,stepD,Ku,GM,BO,RG,t1,Env.size,t2,place,setSlot,List.range,List.range.loop,List.replicate]
  refine wp_seq (VF O hP q A Y _ _ .normal _ rfl (c0 _) _ _ _ _ hrel (fun a1 w1 σ1 hr1 he1=>?_));show (Code.seq _ _).wp P _ a1 w1;refine wp_seq (wp_seq (ZCh O hP q htu hr1 (xs:=xs) (n:=ei.size) rfl (by simp) (fun b a2 G hb=>?_)));show (Code.cond _ _ _).wp P _ a2 w1;refine wp_cond (t:=b) ?_ ?_
  ·have:=En (a:=a2) G.Ey G.slots (.tmp 4);generalize a2.eval (.tmp 4)=v4 at this ⊢;simp only[ev,setSlot]at this;cases this with
   | lit _ _=>rfl
  ·cases b with
   | true=>
    have hx:=hb rfl;subst hx;have cA:∀N,Gp (Eu E0 0) N E0 f (Z52 t) ⟨setSlot (setSlot [.sl false ei.size [],EZ,.Bi 0 0 0 0,EZ,EZ,EZ,EZ,EZ] (some 3) (.sl false ei.size [])) (some 4) (.lit (.bool true)),[CB true false e ei.size []]⟩ =
      some (.ret,⟨[.sl false ei.size [],EZ,.Bi 1 0 0 0,.sl false ei.size [],.lit (.bool true),EZ,EZ,EZ],[CB true false e ei.size [],CB true false e ei.size []]⟩):=by
     intro N;simp[Z52,Gp,OJ,stepD,Ku,GM,BO,RG,t1,Env.size,t2,place,setSlot,List.range,List.range.loop]
    refine VF O hP q A Y _ _ .ret _ rfl (cA _) _ _ _ _ G (fun a3 w3 σ3 hr3 S=>?_);exact J _ (by rw[M];rfl) a3 w3 σ3 hr3 (he1.trans S)
   | false=>
    refine wp_skip ?_;show (yA t).wp P _ a2 w1;have cB:∀N,Gp (Eu E0 0) N E0 f (yA t) ⟨setSlot (setSlot [.sl false ei.size xs,EZ,.Bi 0 0 0 0,EZ,EZ,EZ,EZ,EZ] (some 3) (.sl false ei.size xs)) (some 4) (.lit (.bool false)),[CB true false e ei.size []]⟩ =
      some (.ret,⟨[.sl false ei.size xs,EZ,.Bi 1 0 xs.length xs.length,.sl false ei.size xs,.lit (.bool false),.Bi 1 0 0 0,.sl false ei.size xs,.Bi 1 0 xs.length xs.length],[CB true false e ei.size [],CB true false e ei.size xs]⟩):=by
     intro N;have hzk:ei.Vu=true:=by simp[TI.Vu,hez,hzl,hzo]
     simp[yA,Gp,OJ,stepD,Ku,GM,BO,t1,t2,place,setSlot,List.range,List.range.loop,QW,hez,Fg,hpos,hzl,hzo,Ns,bump,ev,evs,Qd,Nh,elemsOf,Ew,Dn,CB,h1,h2,hzk]
    refine VF O hP q A Y _ _ .ret _ rfl (cB _) _ _ _ _ G (fun a3 w3 σ3 hr3 S=>?_);exact J _ (by rw[M];rfl) a3 w3 σ3 hr3 (he1.trans S)
theorem Zxt (M:P.follows .mixedOrders=true) {f:FuncId} {fn:Func} {t tb e:TypeId} {i1 i2:Nat} {iz:Option V} {q:TI} {z:V} (hfn:P.funcs[f]? = some fn) (F:fn.body=some (yQ t tb)) (hnt:fn.ntmps=8) (Q:fn.results = #[.tmp 2])
  (hti:LK P t=some ⟨.slice e,i1,i2,iz⟩) (htu:P.underlying t=some (.slice e)) (S:LK P e=some q) (Y:q.zero=some z) (N:0<q.size) (hzl:z.cells.length=q.size) (hzo:okV z=true)
  {xs:List V} (h1:xs.length*q.bytes<=lim) (h2:xs.length<=maxLen):Pe P E f [.sl false q.size xs] (.sl false q.size xs):=by
 intro fz w vs A hg hr;refine(Zft M hfn F hnt Q hti htu S Y N hzl hzo h1 h2 fz w vs A hr).mono ?_
 rintro e' w' ⟨u,σ',rfl,C,G,O⟩
 have J:KG [CB true false e q.size [],CB true false e q.size xs] (.Bi 1 0 xs.length xs.length)=some (.sl false q.size xs):=by simp[KG,Ic,Ia,Dn,CB]
 obtain⟨D,I⟩:=C.freeze (QH (.Bi 1 0 xs.length xs.length));have hr2:=Z3U C O J (QH (.Bi 1 0 xs.length xs.length)) (fun i hi=>hi);have hn:=Z37 C O J;refine⟨u,_,rfl,D.below,fun b c h=>(I.fz b c (G.fz b c h).1).1,fun b c h hlt=>D.old b c h hlt,D.cells,?_,hn⟩;exact hr2.bare (fun b c h=>⟨h,rfl⟩) (Ec.refl _) (by simp[CS,hn])
theorem ZAH (M:P.follows .mixedOrders=true) {f:FuncId} {fn:Func} {t tb e:TypeId} {i1 i2:Nat} {iz:Option V} {C:TI} {z:V} (hfn:P.funcs[f]? = some fn) (G:fn.body=some (yQ t tb)) (hnt:fn.ntmps=8) (O:fn.results = #[.tmp 2])
  (hti:LK P t=some ⟨.slice e,i1,i2,iz⟩) (htu:P.underlying t=some (.slice e)) (S:LK P e=some C) (Y:C.zero=some z) (N:0<C.size) (hzl:z.cells.length=C.size) (hzo:okV z=true)
  {xs:List V} (h1:xs.length*C.bytes<=lim) (h2:xs.length<=maxLen):xN P E f [.sl false C.size xs] e C.size xs:=by
 intro fz w vs A hg hr;have F:∀x∈xs,FM x=true:=by
  cases hr with
  | Eo _=>simp
  | GI a _=>simp
  | sl b o c e' k1 k2 k3 k4 k5 k6 k7 _=>exact k2
 refine(Zft M hfn G hnt O hti htu S Y N hzl hzo h1 h2 fz w vs A hr).mono ?_
 rintro e' w' ⟨u,σ',rfl,q,J,hr'⟩
 obtain⟨L,hL,I⟩:=q.boxes 1 _ rfl rfl;obtain⟨us,k1,k2,k3,k4⟩:=I.ED;have Q:L.tot=xs.length:=I.tot;have D:L.Au=C.size:=I.Au.symm;have hu:u=L.v:=by
  cases hr' with
  | Bi q1 q2 q3 q4 _=>
   rw[hL]at q1;cases q1;obtain⟨_,a,n,c,k,r1,r2,r3,r4,_⟩:=q3 Q;have hk0:k=0:=by omega
   subst hk0;rw[r2,r1];rcases k4.2 with ⟨hv,hn⟩|⟨g,cap,cur,tg,hv,_⟩
   ·rw[r1]at hv;cases hv;have:xs.length=0:=hn;simp[this]
   ·rw[r1]at hv;cases hv;simp[Addr.add,CB]
 subst hu;refine⟨L.v,us,σ'.fz,rfl,q.below,fun b c h=>(J.fz b c h).1,fun b c h hlt=>q.old b c h hlt,q.cells,k1.bare (fun b c h=>⟨h,rfl⟩) (Ec.refl _) (QZ F),F,fun x hx=>by rw[k2 x hx,D],k3,by rw[<- D];exact k4,fun g c hg' hfz=>?_⟩;have:=q.floor g c hfz 1 _ L rfl rfl hL hg';simp[CB]at this
theorem wV (C:P.follows .mixedOrders=true) {f:FuncId} {fn:Func} {t tb e:TypeId} (I:P.funcs[f]? = some fn) (q:fn.body=some (yQ t tb)) (M:fn.ntmps=8) (F:fn.results = #[.tmp 2]) (J:(fn.name == "runtime.NumGoroutine")=false)
  (A:(LK P t).map TI.ty=some (.slice e)) (N:P.underlying t=some (.slice e)) {n by' : Nat} (G:(LK P e).map (fun i=>(i.size,i.bytes,i.Vu))=some (n,by',true)) (D:0<n):TB P f n by' e:=by
 cases Q:LK P t with
 | none=>simp_all
 | some ti=>
  cases S:LK P e with
  | none=>simp_all
  | some ei=>
   rw[Q]at A;rw[S]at G;simp only[Option.map_some,Option.some.injEq,Prod.mk.injEq]at A G;obtain⟨ty,i1,i2,iz⟩:=ti;simp only at A;subst A;obtain⟨rfl,rfl,hz⟩:=G;unfold TI.Vu at hz;split at hz
   ·rename_i z O;simp only[Bool.and_eq_true,beq_iff_eq]at hz;exact⟨⟨fn,I,by rw[q];rfl,J⟩,fun E xs Y h4=>Zxt C I q M F Q N S O D hz.2 hz.1 Y h4,fun E xs Y h4=>ZAH C I q M F Q N S O D hz.2 hz.1 Y h4⟩
   ·cases hz
theorem vU {U:DD} {E0:Env} {f n by' e:Nat} (h:TB P f n by' e) {m:HMod U}
  (hm:∀(x:m.Dt.X U) (y:U.Ty m.ky),m.fn x=some y->∃xs,Aw U (m.Dt.enc x).1=[.sl false n xs]/\BN U (m.Dt.enc x).2=[]/\AY U (m.out y).1 = .Bi 0 0 xs.length xs.length/\BN U (m.out y).2=[CB true false e n xs]/\xs.length*by' <= lim/\xs.length<=maxLen):DK P E0 f m:=by
 refine⟨h.entered,fun x y hx=>?_⟩;obtain⟨xs,q,z,A,C,D,F⟩:=hm x y hx;rw[q,z,A,C];intro B w0 σ w vs G I hr;have:=Zf2 (P:=P) (E:=E0) (f:=f) (e:=e) (sz:=n) (xs:=xs) (as:=[.sl false n xs]) [] (by simpa[Gs]using h.own E0 xs D F) rfl G I hr;exact this
end
end Go.Proofs.YtjodhcdmhobmoaaGreatDoor.Le
namespace Go.Proofs.YtjodhcdmhobmoaaGreatDoor.Le
open Go.ChangeShapes Go.WideShapes Go.ChangeAt
theorem ZeK {σ:Sg} {w:World} {ik:IntKind}:∀(ks:List Int),(∀k∈ks,(Lit.int ik k).wf=true)->AV σ w (ks.map fun n=>V.lit (.int ik n)) (ks.map fun n=>Value.int ik n)
 | [],_=>.nil
 | k::ks,h=>.lit (by simp[leaf,h k (by simp)]) (ZeK ks fun j q=>h j (by simp[q]))
theorem ZyV {P:Program} {W:World} {name:String} {g tA e:Nat} {ik:IntKind} {ks:List Int} (hg:P.globalNamed name=some g) (ht:(P.globals[g]?).map (·.type)=some tA) (hA:P.underlying tA=some (.array ks.length e)) (he:P.underlying e=some (.int ik)) (hc:P.cellsOf e=1) (O:P.cellsOf tA=ks.length)
  (hm:laidMetH P [(name,.agg (ks.map fun n=>.lit (.int ik n)))] W):AV (bare (Nv W)) W [.CQ ks.length [.agg (ks.map fun n=>V.lit (.int ik n))] 0 0] [.pointer (some ⟨g,0,none⟩)]:=by
 rw[MakeChecks.laidMetH_plain _ _ _ (by rfl)]at hm;obtain⟨ps,⟨g0,t0,D,f0,p0,q0,Y,ht0,hv0,Q,_,_⟩,_,_⟩:=hm;obtain rfl:=Option.some.inj (hg.symm.trans Y);obtain rfl:=Option.some.inj (ht.symm.trans ht0);obtain⟨xs,m1,rfl,hx,G,hn,S⟩:=DataW.trod_array hA Q;simp only[Prod.mk.injEq,DataW.agg.injEq]at hx;rw[O]at G;have q:∀i,i<ks.length->∃k,ks[i]? = some k/\D[i]? = some (.int ik k)/\(Lit.int ik k).wf=true:=by
  intro i C;have z:=S i C;rw[hc,Nat.mul_one]at z;have I:i<xs.length:=by omega
  rw[List.getElem?_eq_getElem I]at z;obtain⟨k,e1,e2,e3⟩:=DataW.trod_int he z;refine⟨k,?_,?_,e3⟩
  ·have J:=congrArg (·[i]?) hx.1;simp only[List.getElem?_map,List.getElem?_eq_getElem I,List.getElem?_eq_getElem C,Option.map_some,e2,Option.some.injEq,DataW.lit.injEq,Lit.int.injEq,true_and]at J;rw[List.getElem?_eq_getElem C,J]
  ·have N:i<D.toList.length:=by omega
   rw[List.drop_eq_getElem_cons N]at e1
   simp_all
 have hwf:∀k∈ks,(Lit.int ik k).wf=true:=by
  intro k hk;obtain⟨i,C,rfl⟩:=List.mem_iff_getElem.1 hk;obtain⟨k',z,_,N⟩:=q i C;rw[List.getElem?_eq_getElem C]at z;obtain rfl:=Option.some.inj z;exact N
 have A:∀u∈ks.map (fun n=>Value.int ik n),u.oneCell' = true:=by
  intro u hu;obtain⟨k,_,rfl⟩:=List.mem_map.1 hu;rfl
 have hr:=AV.agg (ZeK (σ:=bare (Nv W)) (w:=W) ks hwf) A (xs:=[]) (vs:=[]) .nil;have F:flat [Value.agg (ks.map fun n=>Value.int ik n).toArray]=ks.map fun n=>Value.int ik n:=by simp[flat,Value.cells]
 have:=AV.CQ (σ:=bare (Nv W)) (w:=W) (es:=[.agg (ks.map fun n=>V.lit (.int ik n))]) g 0 ks.length 0 0 hr ?_ ?_ ?_ ?_ (xs:=[]) (vs:=[]) .nil
 ·simpa using this
 ·intro x hx;obtain rfl:x=V.agg (ks.map fun n=>V.lit (.int ik n)):=by simpa using hx
  simp only[FM,okV,DC,Bool.true_and];rw[Lm];intro y hy;obtain⟨k,_,rfl⟩:=List.mem_map.1 hy;rfl
 ·intro u hu;obtain rfl:u=Value.agg (ks.map fun n=>Value.int ik n).toArray:=by simpa using hu
  simp[Value.cells]
 ·rw[F];exact A
 ·intro j u M;rw[F,List.getElem?_map]at M;cases hk:ks[j]? with
  | none=>simp[hk]at M
  | some k=>
   simp only[hk,Option.map_some,Option.some.injEq]at M;subst M;obtain⟨k',z,J,_⟩:=q j (List.getElem?_eq_some_iff.1 hk).1;obtain rfl:=Option.some.inj (hk.symm.trans z);have:=(World.var?_cell hg hv0 j).trans J;rw[Nat.zero_add];exact⟨⟨_,this⟩,this⟩
end Go.Proofs.YtjodhcdmhobmoaaGreatDoor.Le
