/- A part of it. -/
import Derived.Test.YtjodhcdmhobmoaaGreatDoorWL5
import Derived.LaidMore
import Derived.MakeChecks
import Derived.FnData
import Derived.OpenShut
set_option linter.unusedVariables false
set_option linter.unusedSimpArgs false
namespace Go.Proofs.YtjodhcdmhobmoaaGreatDoor.Le
def ZhT (n by' : Nat):List V->Option V
 | [.sl false e xs]=>if e=n/\xs.length*by' <= lim/\xs.length<=maxLen then some (.sl false e xs) else none
 | _=>none
def yA (cl:List (Nat×Nat×Nat×Nat)):FuncId->Option (List V->Option V):=fun g=>(cl.find? fun p=>p.1==g).map fun p=>ZhT p.2.1 p.2.2.1
def Z4W (cl:List (Nat×Nat×Nat×Nat)):FuncId->Option TypeId:=fun g=>(cl.find? fun p=>p.1==g).map fun p=>p.2.2.2
structure SC (P:Program) (f n by' e:Nat):Prop where
 entered:NJ P f
 pure:∀(E:Env) (xs:List V),xs.length*by' <= lim->xs.length<=maxLen->PD P E f [.sl false n xs] (.sl false n xs)
 own:∀(E:Env) (xs:List V),xs.length*by' <= lim->xs.length<=maxLen->wP P E f [.sl false n xs] e n xs
theorem ZBV {P:Program} {E:Env} {cl:List (Nat×Nat×Nat×Nat)} (I:E.env=yA cl) (J:E.own=Z4W cl) (C:∀f k,E.hm f k=none) (D:∀f,E.maps f=none) (h:∀p∈cl,SC P p.1 p.2.1 p.2.2.1 p.2.2.2):SG P E:=by
 refine⟨?_,fun f key hs h=>(by rw[C]at h;cases h),fun f l h=>by rw[D]at h;cases h⟩;intro f F z;rw[I]at z;unfold yA at z;cases hp:cl.find? (fun p=>p.1==f) with
 | none=>simp[hp]at z
 | some p=>
  simp only[hp,Option.map_some,Option.some.injEq]at z;subst z;have hm:=h p (List.mem_of_find?_eq_some hp);have hf:p.1=f:=by simpa using List.find?_some hp
  rw[hf]at hm;have A:E.own f=some p.2.2.2:=by rw[J];unfold Z4W;rw[hp];rfl
  refine⟨hm.entered,fun as r _ q=>?_⟩;rw[A];intro sz xs G;subst G;unfold ZhT at q;split at q
  ·split at q
   ·rename_i hc;simp only[Option.some.injEq,V.sl.injEq]at q;obtain⟨_,rfl,rfl⟩:=q;rw[hc.1];exact hm.own E _ hc.2.1 hc.2.2
   ·cases q
  ·cases q
noncomputable def EC (P:Program) (gl:Nat->Option (List V)) (fs:List FuncId) (pu:FuncId->Bool) (bad:List (Nat×Nat):=[]) (cl:List (Nat×Nat×Nat×Nat):=[]):Env:=
 { Om P pu (yA cl) with
  func:=fun g=>if fs.contains g then P.funcs[g]? else none
  FM:=gl
  own:=Z4W cl
  calm:=fun f id=>!(bad.any fun p=>p.1==f&&p.2==id) }
noncomputable def wO (P:Program) (gl:Nat->Option (List V)) (fs:List FuncId) (pu:FuncId->Bool) (bad:List (Nat×Nat):=[]) (cl:List (Nat×Nat×Nat×Nat):=[]):Bool:=
 fs.all fun g=>match P.funcs[g]? with
  | some fn=>!(fn.name == "runtime.NumGoroutine")&&(match fn.body with|some c=>Eo (EC P gl fs pu bad cl) g c|none=>true)
  | none=>true
theorem Zi9 {P:Program} {gl:Nat->Option (List V)} {fs:List FuncId} {pu:FuncId->Bool} {bad:List (Nat×Nat)} {cl:List (Nat×Nat×Nat×Nat)} (A:P.follows .mixedOrders=true) (q:wO P gl fs pu bad cl=true):DV (EC P gl fs pu bad cl):=by
 have q:=List.all_eq_true.1 q;refine⟨fun t i h=>h,?_,A,?_,?_,?_,?_,fun t ks h=>h,?_⟩
 ·intro g fn h;simp only[EC]at h;split at h
  ·rename_i D;have:=q g (by simpa using D);rw[h]at this;simp only[Bool.and_eq_true,Bool.not_eq_true']at this;exact⟨h,this.1⟩
  ·cases h
 ·intro g fn c h hb;simp only[EC]at h
  grind
 ·intro t k h;simp only[EC,Om]at h;split at h
  ·rename_i d z;simp only[Option.some.injEq]at h;subst h;exact z
  ·cases h
 ·intro t h;simp only[EC,Om]at h;split at h
  ·rename_i z;exact z
  ·cases h
 ·intro t h;simp only[EC,Om]at h;split at h
  ·rename_i z;exact z
  ·cases h
 ·intro t h;simp only[EC,Om]at h;split at h
  ·rename_i e C;split at h
   ·rename_i z;exact⟨e,C,z⟩
   ·cases h
  ·cases h
theorem ZcQ {H:Type} {enc:TypeId×Value->H} {P:Program} {w:World} {base:Nat} {q:Nat->Bool} {held:Bool}:∀{ts:List TypeId} {vs:List Value} {z:List (DataW H)} {ps:List MemPlace},DataW.TrodAll enc P w base q held ts vs z ps->z.length=ts.length
 | [],[],[],_,_=>rfl
 | _::_,_::_,_::_,_,⟨_,_,_,h,_⟩=>congrArg (· + 1) (ZcQ h)
theorem ZBI {U:DI} {P:Program} {gl:Nat->Option (List V)} {fs:List FuncId} {pu:FuncId->Bool} {bad:List (Nat×Nat)} {cl:List (Nat×Nat×Nat×Nat)} {E0:Env} (D:E0.FM=gl) (C:P.follows .mixedOrders=true) (F:wO P gl fs pu bad cl=true) (G:∀p∈cl,SC P p.1 p.2.1 p.2.2.1 p.2.2.2) {f:FuncId} (I:yA cl f=none) (hf:fs.contains f=true) (hp:pu f=true) {fn:Func} (A:P.funcs[f]? = some fn)
  (hb:fn.body.isNone=false) {n:Nat} {m:Ai U} (M:m.ts=[]) {a:U.Ty m.rt} (hm:∀x,m.fn x=some a) (h:(FI (EC P gl fs pu bad cl) (n+1) f [] []).map (·.1)=some (U.enc m.rt a)):Ah P E0 f m:=by
 have N:=Zi9 C F;have z:(fn.name == "runtime.NumGoroutine")=false:=(N.func f fn (by simp only[EC,hf,if_true];exact A)).2;refine⟨⟨fn,A,hb,z⟩,fun x a' O=>?_⟩;rw[hm x]at O;cases O;cases hc:FI (EC P gl fs pu bad cl) (n+1) f [] [] with
 | none=>simp[hc]at h
 | some rr=>
  obtain⟨r,H'⟩:=rr;simp only[hc,Option.map_some,Option.some.injEq]at h;subst h;have J:=ZBD N rfl (ZBV rfl rfl (fun _ _=>rfl) (fun _=>rfl) G) hp I rfl rfl hc;have Q:Hz m.ts x=[]:=by
   have hl:=Z9X x;exact List.eq_nil_of_length_eq_zero (by rw[hl,congrArg List.length M];rfl)
  rw[Q];intro fz w vs q S hr;exact J fz w vs q (fun g r Y=>S g r (by rw[D];exact Y)) hr
end Go.Proofs.YtjodhcdmhobmoaaGreatDoor.Le
namespace Go.Proofs.YtjodhcdmhobmoaaGreatDoor.Le
open Go.RowKit (Below)
def Qn:Operand:=.const (.slice none 0 0)
def Z4q (t:TypeId):Code:=.seq (.region 2 #[.mk (some 2) (.assign Qn) t "slices.go:358" #[] none] false) .ret
def wS (t:TypeId):Code:=.seq (.region 3 #[.mk (some 5) (.buildSlice t 0 #[]) t "slices.go:362" #[] none,.mk (some 6) (.move (.tmp 0)) t "slices.go:362" #[] none,
 .mk (some 7) (.call (.mk (.builtin .append) #[.tmp 5,.tmp 6] #[t,t])) t "slices.go:362" #[.mk 0 .data,.mk 1 .data] none,
 .mk (some 2) (.assign (.tmp 7)) t "slices.go:362" #[.mk 2 .data,.mk 2 .chain,.mk 0 .phase,.mk 1 .phase,.mk 2 .phase] none] false) .ret
def iY (t tb:TypeId):Array Oper:=#[.mk (some 3) (.move (.tmp 0)) t "slices.go:357" #[] none,.mk (some 4) (.binOp .eql t (.tmp 3) Qn t) tb "slices.go:357" #[.mk 0 .data] none]
def xQ (t tb:TypeId):Code:=
 .seq (.region 0 #[.mk (some 2) (.assign Qn) t "slices.go:355" #[] none] false) (.seq (.seq (.region 1 (iY t tb) false) (.cond (.tmp 4) (Z4q t) .skip)) (wS t))
section
variable {P:Program} {E:Env} {B:Nat} {w0:Start} {call:EO}
theorem Zuu (w:World) (d:Nat) (t e:TypeId) (a:Option Addr) (l c:Nat) (h:P.underlying t=some (.slice e)):(Op.equalIn (d+1) t (.slice a l c) (.slice none 0 0)).run P w = .ok a.isNone w:=by
 cases a<;>simp[Op.equalIn,run_underlying h]
theorem Zzq (w:World) (t e:TypeId) (a:Option Addr) (l c:Nat) (h:P.underlying t=some (.slice e)):(Op.equal t (.slice a l c) (.slice none 0 0)).run P w = .ok a.isNone w:=Zuu w 9999 t e a l c h
theorem ZAx {t e:TypeId} {y z:Operand} {v:Value} {w:World} (q:P.underlying t=some (.slice e)) (A:∃a n c,v = .slice a n c/\(a=none->n=0)) :
  ∃b,(do eqGuard .eql t y z v (.slice none 0 0);binOp .eql t v (.slice none 0 0)).run P w = .ok (.bool b) w/\(b=true->∃c,v = .slice none 0 c):=by
 obtain⟨a,n,c,rfl,C⟩:=A;refine⟨a.isNone,?_,fun h=>?_⟩
 ·simp only[Sem.run_bind];rw[UO _ _ _ _ _ _ (by simp) (by simp)];simp[binOp,Zzq w t e a n c q]
 simp_all
theorem ZDF (hE:DV E) (hP:E.P=P) (F:Jo P E B w0 call) {id:Nat} {t tb e n:TypeId} (ht:P.underlying t=some (.slice e)) {st:St} {σ:Sg} {a:Act} {w:World} (A:F5 E B w0 σ st a w)
  {xs:List V} (hx:ev E st.s (.tmp 0) = .sl false n xs) (h3:3<st.s.length) {Q:Exit->Act->World->Prop}
  (hq:∀b O,F5 E B w0 σ ⟨setSlot (setSlot st.s (some 3) (.sl false n xs)) (some 4) (.lit (.bool b)),st.H⟩ O w->(b=true->xs=[])->Q .normal O w) :
  (Code.region id (iY t tb) false).wp P Q a w:=by
 refine wp_region ?_;show wpOps P (iY t tb) Q [0,1] a w;have J:∃v,a.eval (.tmp 0)=v/\AV σ w [.sl false n xs] [v]:=by
  have:=Et (a:=a) A.FM A.slots (.tmp 0);rw[hx]at this;exact⟨_,rfl,this⟩
 obtain⟨v,J,C⟩:=J;rw[wpOps_cons];unfold wpOp;have Y:(iY t tb)[0]? = some (.mk (some 3) (.move (.tmp 0)) t "slices.go:357" #[] none):=rfl;have S:(iY t tb)[1]? = some (.mk (some 4) (.binOp .eql t (.tmp 3) Qn t) tb "slices.go:357" #[.mk 0 .data] none):=rfl;simp only[Y];rw[if_pos (show Region.wanted _ _=true from rfl)];refine .inl (JK (s:=pure v) (u:=v) (w' :=w) (by unfold execOp;simp[J]) (by simp[Sem.run_pure]) ?_);rw[wpOps_cons];unfold wpOp;simp only[S];rw[if_pos (show Region.wanted _ _=true from rfl)];have q:F5 E B w0 σ ⟨setSlot st.s (some 3) (.sl false n xs),st.H⟩ (a.put (some 3) v) w:=⟨A.inv,A.FM,uH A.slots C (some 3),wC A.calm _ _⟩;have G:(a.put (some 3) v).eval (.tmp 3)=v:=by
  have:3<a.tmps.size:=by
   have:=A.slots.length;simp only[Array.length_toList]at this;omega
  simp[Act.put,Act.eval,this]
 have I:∃a n c,v = .slice a n c/\(a=none->n=0)/\(a=none->xs=[]):=by
  cases C with
  | Ew _=>grind
  | GL a _=>grind
  | sl b o c e' S h2 h3 h4 h5 h6 h7 _=>grind
 obtain⟨va,vn,vc,N,M,hvx⟩:=I;obtain⟨b,D,hb2⟩:=ZAx (P:=P) (t:=t) (e:=e) (y:=.tmp 3) (z:=Qn) (w:=w) ht ⟨va,vn,vc,N,M⟩;refine .inl (JK (s:=do eqGuard .eql t (.tmp 3) Qn v (.slice none 0 0);binOp .eql t v (.slice none 0 0)) (u:=.bool b) ?_ D ?_)
 ·unfold execOp;simp only[G];rfl
 ·show Q .normal _ _;refine hq b _ ⟨q.inv,q.FM,uH q.slots (.lit rfl .nil) (some 4),wC q.calm _ _⟩ (fun h=>?_)
  simp_all
theorem ZfV (hmix:P.follows .mixedOrders=true) {f:FuncId} {fn:Func} {t tb e:TypeId} {i1 i2:Nat} {iz:Option V} {ei:TI} {z:V} (hfn:P.funcs[f]? = some fn) (Q:fn.body=some (xQ t tb)) (hnt:fn.ntmps=8) (M:fn.results = #[.tmp 2])
  (hti:KZ P t=some ⟨.slice e,i1,i2,iz⟩) (htu:P.underlying t=some (.slice e)) (hei:KZ P e=some ei) (hez:ei.zero=some z) (hpos:0<ei.size) (hzl:z.cells.length=ei.size) (hzo:okV z=true)
  {xs:List V} (h1:xs.length*ei.bytes<=lim) (h2:xs.length<=maxLen) (fz:Nat->Nat->Prop) (w:World) (vs:List Value) (D:∀b c,fz b c->∃u,w.cell? ⟨b,c,none⟩=some u) (hr:AV (bare fz) w [.sl false ei.size xs] vs) :
  Calls P f vs.toArray w fun e' w' =>∃u σ',e' = .returned u/\Inv w.heap.size (Start.of w fz) σ' [CJ true false e ei.size [],CJ true false e ei.size xs] w' /\ Ext (bare fz) w σ' w' /\ AV σ' w' [.Bl 1 0 xs.length xs.length] [u]:=by
 have hck:wO P (fun _=>none) [] (fun _=>false) []=true:=rfl;have O:=Zi9 (P:=P) (gl:=fun _=>none) (fs:=[]) (pu:=fun _=>false) (bad:=[]) hmix hck;generalize C:EC P (fun _=>none) [] (fun _=>false) []=E0 at O;have hP:E0.P=P:=by rw[<- C];rfl
 have t1:E0.ti t=some ⟨.slice e,i1,i2,iz⟩:=by rw[<- C];exact hti
 have t2:E0.ti e=some ei:=by rw[<- C];exact hei
 have hcm:∀g id,E0.calm g id=true:=fun g id=>by rw[<- C];rfl
 have hI:Inv w.heap.size (Start.of w fz) (bare fz) [] w:=⟨Below.refl _ w,Nat.le_refl _,fun id L hL=>(by cases hL),fun id bx hb=>by simp at hb,fun i j b1 b2 L1 L2 g h1=>by simp at h1,D,
  fun b c hc id bx L hb=>by simp at hb,fun id bx hb=>by simp at hb,fun b c hc _=>hc,fun b hb=>hb.elim⟩
 have hg0:EK E0 (bare fz) w:=fun g r hh=>by rw[<- C]at hh;cases hh
 have q:Jo P E0 w.heap.size (Start.of w fz) (FI E0 0):=fun f args H x H' σ w vs h=>by cases h
 have A:Ou E0 (FI E0 0):=Vz 0;have Y:=Z46 (f:=f) O hP q A 0
 ·refine calls_of_wp hfn Q ?_;have I:AV (bare fz) w ([.sl false ei.size xs]++List.replicate 7 Ef) (vs.toArray++Array.replicate (fn.ntmps - vs.toArray.size) undef).toList:=by
   simp only[Array.toList_append,Array.toList_replicate,List.size_toArray];rw[<- hr.length,hnt];exact hr.append (AV.replicate _ (.no .nil))
  have hrel:F5 E0 w.heap.size (Start.of w fz) (bare fz) ⟨[.sl false ei.size xs]++List.replicate 7 Ef,[]⟩ { tmps:=vs.toArray++Array.replicate (fn.ntmps - vs.toArray.size) undef,defers:=[] } w:=⟨hI,hg0,I,rfl⟩;have J:∀(s:List V),Lc E0 [CJ true false e ei.size [],CJ true false e ei.size xs] s fn.results.toList=some (.Bl 1 0 xs.length xs.length)->∀a' w' σ',F5 E0 w.heap.size (Start.of w fz) σ' ⟨s,[CJ true false e ei.size [],CJ true false e ei.size xs]⟩ a' w' -> Ext (bare fz) w σ' w' ->
    a'.defers=[]/\∃v,(results fn a'.tmps).run P w' = .ok v w' /\ (fun e' w' =>∃u σ',e' = Ending.returned u/\Inv w.heap.size (Start.of w fz) σ' [CJ true false e ei.size [],CJ true false e ei.size xs] w' /\ Ext (bare fz) w σ' w' /\ AV σ' w' [.Bl 1 0 xs.length xs.length] [u]) (.returned v) w' :=by
   intro s hx a' w' σ' F he';obtain⟨u,hu,hur⟩:=tY (P:=P) O hP F.inv F.slots hx;exact⟨F.calm,u,hu,u,σ',rfl,F.inv,he',hur⟩
  have c0:∀N,Gu (FI E0 0) N E0 f (.region 0 #[.mk (some 2) (.assign Qn) t "slices.go:355" #[] none] false) ⟨[.sl false ei.size xs]++List.replicate 7 Ef,[]⟩ =
    some (.normal,⟨[.sl false ei.size xs,Ef,.Bl 0 0 0 0,Ef,Ef,Ef,Ef,Ef],[CJ true false e ei.size []]⟩):=by
   intro N;simp[Gu,Nl,stepD,KT,GV,BU,Qn,t1,Env.size,t2,place,setSlot,List.range,List.range.loop,List.replicate]
  refine wp_seq (U7 O hP q A Y _ _ .normal _ rfl (c0 _) _ _ _ _ hrel (fun a1 w1 σ1 hr1 he1=>?_));show (Code.seq _ _).wp P _ a1 w1;refine wp_seq (wp_seq (ZDF O hP q htu hr1 (xs:=xs) (n:=ei.size) rfl (by simp) (fun b a2 G hb=>?_)));show (Code.cond _ _ _).wp P _ a2 w1;refine wp_cond (t:=b) ?_ ?_
  ·have:=Et (a:=a2) G.FM G.slots (.tmp 4);generalize a2.eval (.tmp 4)=v4 at this ⊢;simp only[ev,setSlot]at this;cases this with
   | lit _ _=>rfl
  ·cases b with
   | true=>
    have hx:=hb rfl;subst hx;have cA:∀N,Gu (FI E0 0) N E0 f (Z4q t) ⟨setSlot (setSlot [.sl false ei.size [],Ef,.Bl 0 0 0 0,Ef,Ef,Ef,Ef,Ef] (some 3) (.sl false ei.size [])) (some 4) (.lit (.bool true)),[CJ true false e ei.size []]⟩ =
      some (.ret,⟨[.sl false ei.size [],Ef,.Bl 1 0 0 0,.sl false ei.size [],.lit (.bool true),Ef,Ef,Ef],[CJ true false e ei.size [],CJ true false e ei.size []]⟩):=by
     intro N;simp[Z4q,Gu,Nl,stepD,KT,GV,BU,Qn,t1,Env.size,t2,place,setSlot,List.range,List.range.loop]
    refine U7 O hP q A Y _ _ .ret _ rfl (cA _) _ _ _ _ G (fun a3 w3 σ3 hr3 S=>?_);exact J _ (by rw[M];rfl) a3 w3 σ3 hr3 (he1.trans S)
   | false=>
    refine wp_skip ?_;show (wS t).wp P _ a2 w1;have cB:∀N,Gu (FI E0 0) N E0 f (wS t) ⟨setSlot (setSlot [.sl false ei.size xs,Ef,.Bl 0 0 0 0,Ef,Ef,Ef,Ef,Ef] (some 3) (.sl false ei.size xs)) (some 4) (.lit (.bool false)),[CJ true false e ei.size []]⟩ =
      some (.ret,⟨[.sl false ei.size xs,Ef,.Bl 1 0 xs.length xs.length,.sl false ei.size xs,.lit (.bool false),.Bl 1 0 0 0,.sl false ei.size xs,.Bl 1 0 xs.length xs.length],[CJ true false e ei.size [],CJ true false e ei.size xs]⟩):=by
     intro N;have hzk:ei.VM=true:=by simp[TI.VM,hez,hzl,hzo]
     simp[wS,Gu,Nl,stepD,KT,GV,BU,t1,t2,place,setSlot,List.range,List.range.loop,QF,hez,Fp,hpos,hzl,hzo,N7,bump,ev,evs,QS,NL,elemsOf,FD,Dt,CJ,h1,h2,hzk]
    refine U7 O hP q A Y _ _ .ret _ rfl (cB _) _ _ _ _ G (fun a3 w3 σ3 hr3 S=>?_);exact J _ (by rw[M];rfl) a3 w3 σ3 hr3 (he1.trans S)
theorem ZyN (M:P.follows .mixedOrders=true) {f:FuncId} {fn:Func} {t tb e:TypeId} {i1 i2:Nat} {iz:Option V} {q:TI} {z:V} (hfn:P.funcs[f]? = some fn) (F:fn.body=some (xQ t tb)) (hnt:fn.ntmps=8) (Q:fn.results = #[.tmp 2])
  (hti:KZ P t=some ⟨.slice e,i1,i2,iz⟩) (htu:P.underlying t=some (.slice e)) (S:KZ P e=some q) (Y:q.zero=some z) (N:0<q.size) (hzl:z.cells.length=q.size) (hzo:okV z=true)
  {xs:List V} (h1:xs.length*q.bytes<=lim) (h2:xs.length<=maxLen):PD P E f [.sl false q.size xs] (.sl false q.size xs):=by
 intro fz w vs A hg hr;refine(ZfV M hfn F hnt Q hti htu S Y N hzl hzo h1 h2 fz w vs A hr).mono ?_
 rintro e' w' ⟨u,σ',rfl,C,G,O⟩
 have J:Jz [CJ true false e q.size [],CJ true false e q.size xs] (.Bl 1 0 xs.length xs.length)=some (.sl false q.size xs):=by simp[Jz,Ie,Ia,Dt,CJ]
 obtain⟨D,I⟩:=C.freeze (P5 (.Bl 1 0 xs.length xs.length));have hr2:=Z3o C O J (P5 (.Bl 1 0 xs.length xs.length)) (fun i hi=>hi);have hn:=Z2M C O J;refine⟨u,_,rfl,D.below,fun b c h=>(I.fz b c (G.fz b c h).1).1,fun b c h hlt=>D.old b c h hlt,D.cells,?_,hn⟩;exact hr2.bare (fun b c h=>⟨h,rfl⟩) (En.refl _) (by simp[CY,hn])
theorem ZAD (M:P.follows .mixedOrders=true) {f:FuncId} {fn:Func} {t tb e:TypeId} {i1 i2:Nat} {iz:Option V} {C:TI} {z:V} (hfn:P.funcs[f]? = some fn) (G:fn.body=some (xQ t tb)) (hnt:fn.ntmps=8) (O:fn.results = #[.tmp 2])
  (hti:KZ P t=some ⟨.slice e,i1,i2,iz⟩) (htu:P.underlying t=some (.slice e)) (Y:KZ P e=some C) (hez:C.zero=some z) (N:0<C.size) (hzl:z.cells.length=C.size) (hzo:okV z=true)
  {xs:List V} (h1:xs.length*C.bytes<=lim) (h2:xs.length<=maxLen):wP P E f [.sl false C.size xs] e C.size xs:=by
 intro fz w vs A hg hr;have F:∀x∈xs,FW x=true:=by
  cases hr with
  | Ew _=>simp
  | GL a _=>simp
  | sl b o c e' k1 k2 k3 k4 k5 k6 k7 _=>exact k2
 refine(ZfV M hfn G hnt O hti htu Y hez N hzl hzo h1 h2 fz w vs A hr).mono ?_
 rintro e' w' ⟨u,σ',rfl,q,J,hr'⟩
 obtain⟨L,hL,I⟩:=q.boxes 1 _ rfl rfl;obtain⟨us,k1,k2,k3,k4⟩:=I.EF;have Q:L.tot=xs.length:=I.tot;have D:L.BA=C.size:=I.BA.symm;have hu:u=L.v:=by
  cases hr' with
  | Bl q1 q2 q3 q4 _=>
   rw[hL]at q1;cases q1;obtain⟨_,a,n,c,k,r1,r2,r3,r4,_⟩:=q3 Q;have hk0:k=0:=by omega
   subst hk0;rw[r2,r1];rcases k4.2 with ⟨S,hn⟩|⟨g,cap,cur,tg,S,_⟩
   ·rw[r1]at S;cases S;have:xs.length=0:=hn;simp[this]
   ·rw[r1]at S;cases S;simp[Addr.add,CJ]
 subst hu;refine⟨L.v,us,σ'.fz,rfl,q.below,fun b c h=>(J.fz b c h).1,fun b c h hlt=>q.old b c h hlt,q.cells,k1.bare (fun b c h=>⟨h,rfl⟩) (En.refl _) (QG F),F,fun x hx=>by rw[k2 x hx,D],k3,by rw[<- D];exact k4,fun g c hg' hfz=>?_⟩;have:=q.floor g c hfz 1 _ L rfl rfl hL hg';simp[CJ]at this
theorem vT (C:P.follows .mixedOrders=true) {f:FuncId} {fn:Func} {t tb e:TypeId} (I:P.funcs[f]? = some fn) (q:fn.body=some (xQ t tb)) (M:fn.ntmps=8) (F:fn.results = #[.tmp 2]) (J:(fn.name == "runtime.NumGoroutine")=false)
  (A:(KZ P t).map TI.ty=some (.slice e)) (N:P.underlying t=some (.slice e)) {n by' : Nat} (G:(KZ P e).map (fun i=>(i.size,i.bytes,i.VM))=some (n,by',true)) (D:0<n):SC P f n by' e:=by
 cases Q:KZ P t with
 | none=>simp_all
 | some ti=>
  cases S:KZ P e with
  | none=>simp_all
  | some ei=>
   rw[Q]at A;rw[S]at G;simp only[Option.map_some,Option.some.injEq,Prod.mk.injEq]at A G;obtain⟨ty,i1,i2,iz⟩:=ti;simp only at A;subst A;obtain⟨rfl,rfl,hz⟩:=G;unfold TI.VM at hz;split at hz
   ·rename_i z O;simp only[Bool.and_eq_true,beq_iff_eq]at hz;exact⟨⟨fn,I,by rw[q];rfl,J⟩,fun E xs Y h4=>ZyN C I q M F Q N S O D hz.2 hz.1 Y h4,fun E xs Y h4=>ZAD C I q M F Q N S O D hz.2 hz.1 Y h4⟩
   ·cases hz
theorem uQ {U:DI} {E0:Env} {f n by' e:Nat} (h:SC P f n by' e) {m:HMod U}
  (hm:∀(x:m.Dv.X U) (y:U.Ty m.ky),m.fn x=some y->∃xs,BB U (m.Dv.enc x).1=[.sl false n xs]/\BP U (m.Dv.enc x).2=[]/\AY U (m.out y).1 = .Bl 0 0 xs.length xs.length/\BP U (m.out y).2=[CJ true false e n xs]/\xs.length*by' <= lim/\xs.length<=maxLen):Cf P E0 f m:=by
 refine⟨h.entered,fun x y M=>?_⟩;obtain⟨xs,q,z,A,C,D,F⟩:=hm x y M;rw[q,z,A,C];intro B w0 σ w vs G I J;have:=Zg0 (P:=P) (E:=E0) (f:=f) (e:=e) (sz:=n) (xs:=xs) (as:=[.sl false n xs]) [] (by simpa[Gy]using h.own E0 xs D F) rfl G I J;exact this
end
end Go.Proofs.YtjodhcdmhobmoaaGreatDoor.Le
namespace Go.Proofs.YtjodhcdmhobmoaaGreatDoor.Le
open Go.ChangeShapes Go.WideShapes Go.ChangeAt
theorem Zfk {σ:Sg} {w:World} {ik:IntKind}:∀(ks:List Int),(∀k∈ks,(Lit.int ik k).wf=true)->AV σ w (ks.map fun n=>V.lit (.int ik n)) (ks.map fun n=>Value.int ik n)
 | [],_=>.nil
 | k::ks,h=>.lit (by simp[leaf,h k (by simp)]) (Zfk ks fun j q=>h j (by simp[q]))
theorem ZAy {P:Program} {W:World} {name:String} {g tA e:Nat} {ik:IntKind} {ks:List Int} (hg:P.globalNamed name=some g) (ht:(P.globals[g]?).map (·.type)=some tA) (hA:P.underlying tA=some (.array ks.length e)) (he:P.underlying e=some (.int ik)) (hc:P.cellsOf e=1) (Q:P.cellsOf tA=ks.length)
  (hm:laidMetH P [(name,.agg (ks.map fun n=>.lit (.int ik n)))] W):AV (bare (NT W)) W [.CX ks.length [.agg (ks.map fun n=>V.lit (.int ik n))] 0 0] [.pointer (some ⟨g,0,none⟩)]:=by
 rw[MakeChecks.laidMetH_plain _ _ _ (by rfl)]at hm;obtain⟨ps,⟨g0,t0,D,f0,p0,q0,hg0,ht0,hv0,S,_,_⟩,_,_⟩:=hm;obtain rfl:=Option.some.inj (hg.symm.trans hg0);obtain rfl:=Option.some.inj (ht.symm.trans ht0);obtain⟨xs,m1,rfl,N,G,hn,Y⟩:=DataW.trod_array hA S;simp only[Prod.mk.injEq,DataW.agg.injEq]at N;rw[Q]at G;have q:∀i,i<ks.length->∃k,ks[i]? = some k/\D[i]? = some (.int ik k)/\(Lit.int ik k).wf=true:=by
  intro i C;have z:=Y i C;rw[hc,Nat.mul_one]at z;have I:i<xs.length:=by omega
  rw[List.getElem?_eq_getElem I]at z;obtain⟨k,e1,e2,e3⟩:=DataW.trod_int he z;refine⟨k,?_,?_,e3⟩
  ·have J:=congrArg (·[i]?) N.1;simp only[List.getElem?_map,List.getElem?_eq_getElem I,List.getElem?_eq_getElem C,Option.map_some,e2,Option.some.injEq,DataW.lit.injEq,Lit.int.injEq,true_and]at J;rw[List.getElem?_eq_getElem C,J]
  ·have O:i<D.toList.length:=by omega
   rw[List.drop_eq_getElem_cons O]at e1
   simp_all
 have hwf:∀k∈ks,(Lit.int ik k).wf=true:=by
  intro k hk;obtain⟨i,C,rfl⟩:=List.mem_iff_getElem.1 hk;obtain⟨k',z,_,O⟩:=q i C;rw[List.getElem?_eq_getElem C]at z;obtain rfl:=Option.some.inj z;exact O
 have A:∀u∈ks.map (fun n=>Value.int ik n),u.oneCell' = true:=by
  intro u hu;obtain⟨k,_,rfl⟩:=List.mem_map.1 hu;rfl
 have hr:=AV.agg (Zfk (σ:=bare (NT W)) (w:=W) ks hwf) A (xs:=[]) (vs:=[]) .nil;have F:flat [Value.agg (ks.map fun n=>Value.int ik n).toArray]=ks.map fun n=>Value.int ik n:=by simp[flat,Value.cells]
 have:=AV.CX (σ:=bare (NT W)) (w:=W) (es:=[.agg (ks.map fun n=>V.lit (.int ik n))]) g 0 ks.length 0 0 hr ?_ ?_ ?_ ?_ (xs:=[]) (vs:=[]) .nil
 ·simpa using this
 ·intro x N;obtain rfl:x=V.agg (ks.map fun n=>V.lit (.int ik n)):=by simpa using N
  simp only[FW,okV,DF,Bool.true_and];rw[LX];intro y hy;obtain⟨k,_,rfl⟩:=List.mem_map.1 hy;rfl
 ·intro u hu;obtain rfl:u=Value.agg (ks.map fun n=>Value.int ik n).toArray:=by simpa using hu
  simp[Value.cells]
 ·rw[F];exact A
 ·intro j u M;rw[F,List.getElem?_map]at M;cases hk:ks[j]? with
  | none=>simp[hk]at M
  | some k=>
   simp only[hk,Option.map_some,Option.some.injEq]at M;subst M;obtain⟨k',z,J,_⟩:=q j (List.getElem?_eq_some_iff.1 hk).1;obtain rfl:=Option.some.inj (hk.symm.trans z);have:=(World.var?_cell hg hv0 j).trans J;rw[Nat.zero_add];exact⟨⟨_,this⟩,this⟩
end Go.Proofs.YtjodhcdmhobmoaaGreatDoor.Le
