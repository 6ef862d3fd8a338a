/- A part of it. -/
import Derived.Test.YtddbklgndkpipaaGreatDoorL5
import Derived.Carry
import Derived.ProofKit
import Derived.LaidMore
import Derived.MakeChecks
import Derived.FnData
import Derived.OpenShut
set_option linter.unusedVariables false
set_option linter.unusedSimpArgs false
namespace Go.Proofs.YtddbklgndkpipaaGreatDoor.Le
open Go.RowKit (Below)
open Go.ChangeShapes
structure CW (P:Program) {Ty:Nat->Type} {T:Type} (c:AO Ty T) (t:TypeId) (wf:T->Prop):Prop where
 rd:∀(d:Nat) (xs:List V),Ff P d t xs->∃a,c.BD a=xs/\wf a
structure DF (P:Program) {Ty:Nat->Type} {T:Type} (c:AO Ty T) (ss:List (Nat×TypeId)) (off n:Nat) (wf:T->Prop):Prop where
 rd:∀(d:Nat) (xs:List V),xs.length=n->(∀s∈ss,Ff P d s.2 ((xs.drop s.1).take (P.cellsOf s.2)))->∃a,c.BD a=xs.drop off/\wf a
def WI (k:IntKind) (a:Int):Prop:=(Lit.int k a).wf=true
def WB (_:Bool):Prop:=True
def WS (s:ByteArray):Prop:=s.size<=maxLen
def WL {α:Type} (p:α->Prop) (xs:List α):Prop:=xs.length<=maxLen/\∀x∈xs,p x
def WU (_:Unit):Prop:=True
section
variable {P:Program} {Ty:Nat->Type} {T:Type}
theorem CW.int {k:IntKind} {t:TypeId} (ht:P.underlying t=some (.int k)):CW P (AO.int k:AO Ty Int) t (WI k):=by
 refine⟨fun d xs h=>?_⟩
 cases d with
 | zero=>exact h.elim
 | succ d=>
  unfold Ff at h
  rw [ht] at h
  obtain⟨n,rfl,hw⟩:=h
  exact⟨n,rfl,hw⟩
theorem CW.bool {t:TypeId} (ht:P.underlying t=some .bool):CW P (AO.bool:AO Ty Bool) t WB:=by
 refine⟨fun d xs h=>?_⟩
 cases d with
 | zero=>exact h.elim
 | succ d=>
  unfold Ff at h
  rw [ht] at h
  obtain⟨n,rfl⟩:=h
  exact⟨n,rfl,trivial⟩
theorem CW.str {t:TypeId} (ht:P.underlying t=some .string):CW P (AO.str:AO Ty ByteArray) t WS:=by
 refine⟨fun d xs h=>?_⟩
 cases d with
 | zero=>exact h.elim
 | succ d=>
  unfold Ff at h
  rw [ht] at h
  obtain⟨n,rfl,hw⟩:=h
  exact⟨n,rfl,hw⟩
theorem Z6t {α:Type} {p:α->Prop} {e:α->V}:∀{xs:List V},(∀x∈xs,∃a,e a=x/\p a)->∃as:List α,as.map e=xs/\∀a∈as,p a:=by
 intro xs
 induction xs with
 | nil=>simp_all
 | cons x xs ih=>
  intro h
  obtain⟨a,ha,hp⟩:=h x (by simp)
  obtain⟨as,has,hps⟩:=ih (fun y hy=>h y (by simp [hy]))
  refine⟨a::as,by simp [ha,has],fun b hb=>?_⟩
  grind
theorem CW.rows {t e n:Nat} {c:AO Ty (Ty e)} {wf:Ty e->Prop} (ht:P.underlying t=some (.slice e)) (hn:P.cellsOf e=n) (hr:Ip P e=true) (hc:CW P c e wf) :
  CW P (AO.list e n (fun a=>.agg (c.BD a)):AO Ty (List (Ty e))) t (WL wf):=by
 refine⟨fun d xs h=>?_⟩
 cases d with
 | zero=>exact h.elim
 | succ d=>
  unfold Ff at h
  rw [ht] at h
  obtain⟨ys,rfl,hl,hy⟩:=h
  obtain⟨as,has,hp⟩:=Z6t (p:=wf) (e:=fun a=>V.agg (c.BD a)) (xs:=ys) (fun y hy' =>by
   obtain⟨h1,h2⟩:=hy y hy'
   rw [if_pos hr] at h1
   obtain⟨ds,rfl⟩:=h1
   obtain⟨a,ha,hw⟩:=hc.rd d _ h2
   exact⟨a,by rw [ha];rfl,hw⟩)
  subst hn
  exact⟨as,by simp only [AO.list,has],by grind,hp⟩
theorem CW.ones {t e n:Nat} {c:AO Ty (Ty e)} {wf:Ty e->Prop} (ht:P.underlying t=some (.slice e)) (hn:P.cellsOf e=n) (hr:Ip P e=false) (hc:CW P c e wf) :
  CW P (AO.list e n (fun a=>c.Bc a):AO Ty (List (Ty e))) t (WL wf):=by
 refine⟨fun d xs h=>?_⟩
 cases d with
 | zero=>exact h.elim
 | succ d=>
  unfold Ff at h
  rw [ht] at h
  obtain⟨ys,rfl,hl,hy⟩:=h
  obtain⟨as,has,hp⟩:=Z6t (p:=wf) (e:=fun a=>c.Bc a) (xs:=ys) (fun y hy' =>by
   obtain⟨h1,h2⟩:=hy y hy'
   rw [if_neg (by simp [hr])] at h1
   obtain⟨a,ha,hw⟩:=hc.rd d _ h2
   exact⟨a,by simp only [AO.Bc,ha,h1];rfl,hw⟩)
  subst hn
  exact⟨as,by simp only [AO.list,has],by grind,hp⟩
theorem DF.unit {off n:Nat} (h:off=n):DF P (AO.unit:AO Ty Unit) [] off n WU:=by
 refine⟨fun d xs hl _=>⟨(),?_,trivial⟩⟩
 subst h
 rw [<- hl,List.drop_length]
 rfl
theorem DF.pair {A B:Type} {a:AO Ty A} {b:AO Ty B} {t off n k:Nat} {ss:List (Nat×TypeId)} {wa:A->Prop} {wb:B->Prop} (ha:CW P a t wa) (hk:P.cellsOf t=k) (hb:DF P b ss (off+k) n wb) :
  DF P (AO.pair a b) ((off,t)::ss) off n (fun x=>wa x.1/\wb x.2):=by
 refine⟨fun d xs hl h=>?_⟩
 obtain⟨x,hx,hwx⟩:=ha.rd d _ (h (off,t) (by simp))
 obtain⟨y,hy,hwy⟩:=hb.rd d xs hl (fun s hs=>h s (by simp [hs]))
 refine⟨(x,y),?_,hwx,hwy⟩
 simp only [AO.pair,hx,hy]
 rw [hk,<- List.drop_drop,List.take_append_drop]
theorem CW.row {c:AO Ty T} {t n:Nat} {dd:TypeDesc} {ss:List (Nat×TypeId)} {wf:T->Prop} (ht:P.underlying t=some dd) (hss:Hg P dd=some ss) (hn:P.cellsOf t=n) (h:DF P c ss 0 n wf):CW P c t wf:=by
 refine⟨fun d xs hx=>?_⟩
 cases d with
 | zero=>exact hx.elim
 | succ d=>
  unfold Ff at hx
  rw [ht] at hx
  have key:xs.length=P.cellsOf t/\∀s∈ss,Ff P d s.2 ((xs.drop s.1).take (P.cellsOf s.2)):=by
   cases dd with
   | struct fs=>simp_all
   | array m e=>simp_all
   | _=>simp [Hg] at hss
  obtain⟨a,ha,hw⟩:=h.rd d xs (key.1.trans hn) key.2
  grind
theorem CW.CV {A B:Type} {f:A->B} {g:B->A} {b:AO Ty B} {t:TypeId} {wf:B->Prop} (hb:CW P b t wf) (hfg:∀y,f (g y)=y):CW P (AO.CV f g b) t (fun x=>wf (f x)):=by
 refine⟨fun d xs h=>?_⟩
 obtain⟨y,hy,hw⟩:=hb.rd d xs h
 exact⟨g y,by simp only [AO.CV,hfg];exact hy,by rw [hfg];exact hw⟩
end
structure Px (P:Program) (U:Cm) (t:TypeId) (wf:U.Ty t->Prop):Prop where
 rd:∀d xs,Ff P d t xs->∃a,U.enc t a=Kz P t xs/\wf a
theorem Px.rows {P:Program} {U:Cm} {t:TypeId} {c:AO U.Ty (U.Ty t)} {wf:U.Ty t->Prop} (hr:Ip P t=true) (hc:CW P c t wf) (he:∀a,U.enc t a = .agg (c.BD a)):Px P U t wf:=by
 refine⟨fun d xs h=>?_⟩
 obtain⟨a,ha,hw⟩:=hc.rd d xs h
 exact⟨a,by rw [he,ha];simp [Kz,hr],hw⟩
theorem Px.ones {P:Program} {U:Cm} {t:TypeId} {c:AO U.Ty (U.Ty t)} {wf:U.Ty t->Prop} (hr:Ip P t=false) (hc:CW P c t wf) (he:∀a,U.enc t a=c.Bc a):Px P U t wf:=by
 refine⟨fun d xs h=>?_⟩
 obtain⟨a,ha,hw⟩:=hc.rd d xs h
 exact⟨a,by rw [he];simp [Kz,hr,AO.Bc,ha],hw⟩
inductive O1 (P:Program) (U:Cm):(ts:List Nat)->(FZ U ts->Prop)->Prop where
 | nil:O1 P U [] (fun _=>True)
 | cons {t ts wf W}:Px P U t wf->O1 P U ts W->O1 P U (t::ts) (fun x=>wf x.1/\W x.2)
theorem ZkZ {P:Program} {U:Cm} {ts:List Nat} {W:FZ U ts->Prop} (h:O1 P U ts W):∀{d:Nat} {as:List V},Vt P d ts as->∃x:FZ U ts,GL ts x=as/\W x:=by
 induction h with
 | nil=>intro d as ha;cases ha;exact⟨(),rfl,trivial⟩
 | cons ht _ ih=>
  intro d as ha
  cases ha with
  | cons h1 h2=>
   obtain⟨a,ha,hw⟩:=ht.rd _ _ h1
   obtain⟨x,hx,hW⟩:=ih h2
   exact⟨(a,x),by simp [GL,ha,hx],hw,hW⟩
section
variable {H:Type} {enc:TypeId×Value->H} {P:Program}
theorem Z0u {W W' : World} {sp:Nat->Bool} (hl:laidOutB P=true):∀{ts:List TypeId} {vs:List Value} {ds:List (DataW H)} {ps:List MemPlace},(∀t∈ts,P.readableRec t=true/\t<P.types.size) ->
  DataW.TrodAll enc P W 0 (fun _=>true) true ts vs ds ps->Below W.heap.size W W' -> (∀p∈ps,p.block<W.heap.size)->(∀p∈ps,sp p.block=true)->DataW.TrodAll enc P W' 0 sp true ts vs ds ps
 | [],[],[],_,_,h,_,_,_=>h
 | t::ts,v::vs,d::ds,_,ht,⟨p,q,h1,h2,e⟩,hb,hlt,hsp=>
  ⟨p,q,WideElems.Trod_stays hl (ht t (by simp)).1 (ht t (by simp)).2 h1 (fun x hx=>hb.same (hlt x (by simp_all))) (fun x hx=>hsp x (by simp_all)),
   Z0u hl (fun t ht' =>ht t (by simp [ht'])) h2 hb (fun x hx=>hlt x (by simp_all)) (fun x hx=>hsp x (by simp_all)),e⟩
theorem Zky {f:Func} {s:ChangeSpec} {apart fresh handsOn again:Bool} {W W' : World} {args:Array Value} {ds gs:List (DataW H)} {before:List MemPlace} {tb:TypeId} (hl:laidOutB P=true) (hts:∀t∈f.params.toList,P.readableRec t=true/\t<P.types.size)
  (hW:DataW.Whole enc P f.params.toList s.vars apart W args.toList ds gs before) (hb:Below W.heap.size W W') (hr:f.resultTypes = #[tb]) (htb:P.underlying tb=some .bool)
  (h1:(s.fn H (ds++gs)).results=[.lit (.bool true)]) (h2:(s.fn H (ds++gs)).args=ds) (h3:(s.fn H (ds++gs)).vars=gs)
  (hvars:∀(pv:List MemPlace),DataW.TrodVars enc P W (fun _=>true) s.vars gs pv->(∀p∈pv,p.block<W.heap.size)->∀sp:Nat->Bool,(∀p∈pv,sp p.block=true)->DataW.TrodVars enc P W' sp s.vars gs pv) :
  s.post enc P f apart fresh handsOn again W args (.bool true) W' :=by
 have hlt:=hW.lt
 have hW0:=hW
 obtain⟨pa,pv,hA,hV,hps,hz,hn⟩:=hW
 have hold:∀p∈before,(fun b=>decide (b<W.heap.size)) p.block=true:=fun p hp=>by simpa using hlt p hp
 have hpa:∀p∈pa,p∈before:=fun p hp=>by simp_all
 have hpv:∀p∈pv,p∈before:=fun p hp=>by simp_all
 have hargs:∀sp:Nat->Bool,(∀p∈before,sp p.block=true)->DataW.TrodAll enc P W' 0 sp true f.params.toList args.toList (s.fn H (ds++gs)).args pa:=fun sp hsp=>by
  rw [h2];exact Z0u hl hts hA hb (fun p hp=>hlt p (hpa p hp)) (fun p hp=>hsp p (hpa p hp))
 have hvs:∀sp:Nat->Bool,(∀p∈before,sp p.block=true)->DataW.TrodVars enc P W' sp s.vars (s.fn H (ds++gs)).vars pv:=fun sp hsp=>by
  simp_all
 have hres:∀(b:Nat) (sp:Nat->Bool) (hd:Bool),DataW.TrodAll enc P W' b sp hd f.resultTypes.toList ((Value.bool true).resultList f.resultTypes.size) (s.fn H (ds++gs)).results []:=fun b sp hd=>by
  rw [h1,hr];exact trodAll_cons_mk (p:=[]) (p' :=[]) (RowKit.shut_bool htb _) trodAll_mk0
 refine⟨ds,gs,before,[],pa,pv,hW0,hres _ _ _,hargs _ hold,hvs _ hold,World.keptBut_mono (fun p hp=>⟨hp,?_⟩) (hb.frame (·∈before)),fun _=>?_⟩
 ·simp_all
 ·refine⟨RowKit.ok_one hr rfl (RowKit.okWide_bool_mk htb _),_,_,([]++pa)++pv,⟨[]++pa,pv,trodAll_append (hargs _ (fun _ _=>rfl)) (hres _ _ _),hvs _ (fun _ _=>rfl),rfl,?_,?_⟩,?_⟩
  ·intro b off hp
   have hm:MemPlace.cell b off∈before:=by rw [hps];simpa using hp
   rw [hb.frozen (p:=⟨b,off,none⟩) (hlt _ hm)]
   exact hz b off hm
  ·simp_all
  simp_all
theorem ZnK {U:Cm} {E0:Env} {f:FuncId} {fn:Func} {m:Az U} {s:ChangeSpec} {apart fresh handsOn again:Bool} {tb:TypeId} (hok:BA P E0 f m) {Wf:FZ U m.ts->Prop} (hrd:O1 P U m.ts Wf) (hpar:fn.params.toList=m.ts) {d:Nat} (hpl:∀t∈m.ts,QU P d t=true)
  (hl:laidOutB P=true) (hts:∀t∈m.ts,P.readableRec t=true/\t<P.types.size) (hr:fn.resultTypes = #[tb]) (htb:P.underlying tb=some .bool) {tt:U.Ty m.rt} (htt:U.enc m.rt tt = .lit (.bool true)) (htrue:∀x,Wf x->m.fn x=some tt)
  (hspec:∀(ds gs:List (DataW H)),ds.length=m.ts.length->gs.length=s.vars.length->(s.fn H (ds++gs)).results=[.lit (.bool true)]/\(s.fn H (ds++gs)).args=ds/\(s.fn H (ds++gs)).vars=gs)
  {W:World} {args:Array Value} {ds gs:List (DataW H)} {before:List MemPlace} (hval:∀(j:Nat) t v,fn.params[j]? = some t->args[j]? = some v->∃r b0,Value.okWide P W r b0 t v)
  (hW:DataW.Whole enc P fn.params.toList s.vars apart W args.toList ds gs before) (hg:Dk E0 (bare (OW W)) W)
  (hvars:∀(W' : World),Below W.heap.size W W' -> ∀(pv:List MemPlace),DataW.TrodVars enc P W (fun _=>true) s.vars gs pv->(∀p∈pv,p.block<W.heap.size)->∀sp:Nat->Bool,(∀p∈pv,sp p.block=true)->DataW.TrodVars enc P W' sp s.vars gs pv)
  (hdl:ds.length=m.ts.length) (hgl:gs.length=s.vars.length) :
  Calls P f args W fun e W' =>∃v,e = .returned v/\s.post enc P fn apart fresh handsOn again W args v W' :=by
 have hW0:=hW
 obtain⟨pa,pv,hA,hV,hps,hz,hn⟩:=hW
 rw [hpar] at hA
 obtain⟨as,hreps,hread⟩:=ZmY hA hpl (fun j t v hj hv=>hval j t v (by grind) (by simp_all))
 obtain⟨x,hx,hwf⟩:=ZkZ hrd hread
 have hcall:=hok.pure x tt (htrue x hwf) (OW W) W args.toList (fun b c hh=>hh) hg (by rw [hx];exact hreps)
 refine hcall.mono ?_
 rintro e W' ⟨u,fz',rfl,hb,_,_,_,hru,_⟩
 rw [htt] at hru
 cases hru with
 | lit _ _=>
  obtain⟨s1,s2,s3⟩:=hspec ds gs hdl hgl
  exact⟨_,rfl,Zky hl (by rw [hpar];exact hts) hW0 hb hr htb s1 s2 s3 (hvars W' hb)⟩
end
end Go.Proofs.YtddbklgndkpipaaGreatDoor.Le
namespace Go.Proofs.YtddbklgndkpipaaGreatDoor.Le
def Z7i (n by' : Nat):List V->Option V
 | [.sl false e xs]=>if e=n/\xs.length*by' <= lim/\xs.length<=maxLen then some (.sl false e xs) else none
 | _=>none
def Z7u (cl:List (Nat×Nat×Nat×Nat)):FuncId->Option (List V->Option V):=fun g=>(cl.find? fun p=>p.1==g).map fun p=>Z7i p.2.1 p.2.2.1
def Z7A (cl:List (Nat×Nat×Nat×Nat)):FuncId->Option TypeId:=fun g=>(cl.find? fun p=>p.1==g).map fun p=>p.2.2.2
structure Z6T (P:Program) (f n by' e:Nat):Prop where
 entered:JO P f
 pure:∀(E:Env) (xs:List V),xs.length*by' <= lim->xs.length<=maxLen->L9 P E f [.sl false n xs] (.sl false n xs)
 own:∀(E:Env) (xs:List V),xs.length*by' <= lim->xs.length<=maxLen->sO P E f [.sl false n xs] e n xs
theorem Z1Q {H:Type} {enc:TypeId×Value->H} {P:Program} {w:World} {base:Nat} {spare:Nat->Bool} {held:Bool}:∀{ts:List TypeId} {vs:List Value} {ds:List (DataW H)} {ps:List MemPlace},DataW.TrodAll enc P w base spare held ts vs ds ps->ds.length=ts.length
 | [],[],[],_,_=>rfl
 | _::_,_::_,_::_,_,⟨_,_,_,h,_⟩=>congrArg (· + 1) (Z1Q h)
end Go.Proofs.YtddbklgndkpipaaGreatDoor.Le
namespace Go.Proofs.YtddbklgndkpipaaGreatDoor.Le
open Go.RowKit (Below)
section
variable {P:Program} {E:Env} {B:Nat} {w0:Start} {call:Df}
end
end Go.Proofs.YtddbklgndkpipaaGreatDoor.Le
namespace Go.Proofs.YtddbklgndkpipaaGreatDoor.Le
def XG (ex:FuncId->Option (List V->Option V)) (cl:List (Nat×Nat×Nat×Nat)):FuncId->Option (List V->Option V):=fun g=>match ex g with|some F=>some F|none=>Z7u cl g
def fJ (ex:FuncId->Option (List V->Option V)) (cl:List (Nat×Nat×Nat×Nat)):FuncId->Option TypeId:=fun g=>match ex g with|some _=>none|none=>Z7A cl g
structure bW (P:Program) (gl:Nat->Option (List V)) (f:FuncId) (F:List V->Option V):Prop where
 entered:JO P f
 pure:∀(E:Env) (as:List V) (r:V),E.EP=gl->F as=some r->L9 P E f as r
theorem ZkA {P:Program} {gl:Nat->Option (List V)} {E:Env} {ex:FuncId->Option (List V->Option V)} {cl:List (Nat×Nat×Nat×Nat)} (hg:E.EP=gl) (hE:E.env=XG ex cl) (ho:E.own=fJ ex cl) (hhm:∀f k,E.hm f k=none) (hmk:∀f,E.maps f=none) (h:∀p∈cl,Z6T P p.1 p.2.1 p.2.2.1 p.2.2.2) (hx:∀g F,ex g=some F->bW P gl g F):MR P E:=by
 refine⟨?_,fun f key hs h=>(by rw [hhm] at h;cases h),fun f l h=>by rw [hmk] at h;cases h⟩
 intro f F hF
 rw [hE] at hF
 cases he:ex f with
 | some F' =>
  simp only [XG,he,Option.some.injEq] at hF
  subst hF
  refine⟨(hx f _ he).entered,fun as r _ hr=>?_⟩
  rw [show E.own f=none by rw [ho];simp only [fJ,he]]
  exact(hx f _ he).pure E as r hg hr
 | none=>
 simp only [XG,he] at hF
 unfold Z7u at hF
 cases hp:cl.find? (fun p=>p.1==f) with
 | none=>simp [hp] at hF
 | some p=>
  simp only [hp,Option.map_some,Option.some.injEq] at hF
  subst hF
  have hm:=h p (List.mem_of_find?_eq_some hp)
  have hf:p.1=f:=by simpa using List.find?_some hp
  rw [hf] at hm
  have hown:E.own f=some p.2.2.2:=by rw [ho];simp only [fJ,he];unfold Z7A;rw [hp];rfl
  refine⟨hm.entered,fun as r _ hr=>?_⟩
  rw [hown]
  intro sz xs hr0
  subst hr0
  unfold Z7i at hr
  split at hr
  ·split at hr
   ·rename_i hc
    simp only [Option.some.injEq,V.sl.injEq] at hr
    obtain⟨_,rfl,rfl⟩:=hr
    rw [hc.1]
    exact hm.own E _ hc.2.1 hc.2.2
   ·cases hr
  ·cases hr
noncomputable def EX (P:Program) (gl:Nat->Option (List V)) (fs:List FuncId) (pu:FuncId->Bool) (bad:List (Nat×Nat)) (cl:List (Nat×Nat×Nat×Nat)) (ex:FuncId->Option (List V->Option V)):Env:=
 { MJ P pu (XG ex cl) with
  func:=fun g=>if fs.contains g then P.funcs[g]? else none
  EP:=gl
  own:=fJ ex cl
  calm:=fun f id=>!(bad.any fun p=>p.1==f&&p.2==id) }
noncomputable def sJ (P:Program) (gl:Nat->Option (List V)) (fs:List FuncId) (pu:FuncId->Bool) (bad:List (Nat×Nat)) (cl:List (Nat×Nat×Nat×Nat)) (ex:FuncId->Option (List V->Option V)):Bool:=
 fs.all fun g=>match P.funcs[g]? with
  | some fn=>!(fn.name == "runtime.NumGoroutine")&&(match fn.body with|some c=>EO (EX P gl fs pu bad cl ex) g c|none=>true)
  | none=>true
theorem EX_ok {P:Program} {gl:Nat->Option (List V)} {fs:List FuncId} {pu:FuncId->Bool} {bad:List (Nat×Nat)} {cl:List (Nat×Nat×Nat×Nat)} {ex:FuncId->Option (List V->Option V)} (hmix:P.follows .mixedOrders=true) (hck:sJ P gl fs pu bad cl ex=true):Ci (EX P gl fs pu bad cl ex):=by
 have hck:=List.all_eq_true.1 hck
 refine⟨fun t i h=>h,?_,hmix,?_,?_,?_,?_,fun t ks h=>h,?_⟩
 ·intro g fn h
  simp only [EX] at h
  split at h
  ·rename_i hg
   have:=hck g (by simpa using hg)
   rw [h] at this
   simp only [Bool.and_eq_true,Bool.not_eq_true'] at this
   exact⟨h,this.1⟩
  ·cases h
 ·intro g fn c h hb
  simp only [EX] at h
  grind
 ·intro t k h
  simp only [EX,MJ] at h
  split at h
  ·rename_i d hd
   simp only [Option.some.injEq] at h
   subst h
   exact hd
  ·cases h
 ·intro t h
  simp only [EX,MJ] at h
  split at h
  ·rename_i hd;exact hd
  ·cases h
 ·intro t h
  simp only [EX,MJ] at h
  split at h
  ·rename_i hd;exact hd
  ·cases h
 ·intro t h
  simp only [EX,MJ] at h
  split at h
  ·rename_i e he
   split at h
   ·rename_i hd;exact⟨e,he,hd⟩
   ·cases h
  ·cases h
theorem Zil {U:Cm} {P:Program} {gl:Nat->Option (List V)} {fs:List FuncId} {pu:FuncId->Bool} {bad:List (Nat×Nat)} {cl:List (Nat×Nat×Nat×Nat)} {ex:FuncId->Option (List V->Option V)} {E0:Env} (hE0:E0.EP=gl) (hmix:P.follows .mixedOrders=true) (hck:sJ P gl fs pu bad cl ex=true) (hx:∀g F,ex g=some F->bW P gl g F) (hcl:∀p∈cl,Z6T P p.1 p.2.1 p.2.2.1 p.2.2.2) {f:FuncId} (hne:XG ex cl f=none) (hf:fs.contains f=true) (hp:pu f=true) {fn:Func} (hfn:P.funcs[f]? = some fn)
  (hb:fn.body.isNone=false) {n:Nat} {m:Az U} (hts:m.ts=[]) {a:U.Ty m.rt} (hm:∀x,m.fn x=some a) (h:(EY (EX P gl fs pu bad cl ex) (n+1) f [] []).map (·.1)=some (U.enc m.rt a)):BA P E0 f m:=by
 have hE:=EX_ok hmix hck
 have hname:(fn.name == "runtime.NumGoroutine")=false:=(hE.func f fn (by simp only [EX,hf,if_true];exact hfn)).2
 refine⟨⟨fn,hfn,hb,hname⟩,fun x a' hx' =>?_⟩
 rw [hm x] at hx'
 cases hx'
 cases hc:EY (EX P gl fs pu bad cl ex) (n+1) f [] [] with
 | none=>simp [hc] at h
 | some rr=>
  obtain⟨r,H'⟩:=rr
  simp only [hc,Option.map_some,Option.some.injEq] at h
  subst h
  have hpf:=ZiT hE rfl (ZkA (gl:=gl) rfl rfl rfl (fun _ _=>rfl) (fun _=>rfl) hcl hx) hp hne rfl rfl hc
  have he:GL m.ts x=[]:=by
   have hl:=Zd x
   exact List.eq_nil_of_length_eq_zero (by rw [hl,congrArg List.length hts];rfl)
  rw [he]
  intro fz w vs hcells hg hr
  exact hpf fz w vs hcells (fun g r hh=>hg g r (by rw [hE0];exact hh)) hr
end Go.Proofs.YtddbklgndkpipaaGreatDoor.Le
namespace Go.Proofs.YtddbklgndkpipaaGreatDoor.Le
open Go.RowKit (Below)
def FinM (P:Program) (fn:Func) (B:Nat) (w0:Start) (σ0:Sg) (ws:World) (r:V×Heap) (a:Act) (w:World):Prop:=
 a.defers=[]/\∃u σ',(results fn a.tmps).run P w = .ok u w/\Inv B w0 σ' r.2 w/\JH 0 σ0 ws σ' w/\AU σ' w [r.1] [u]
theorem ZmI {P:Program} {E:Env} {B:Nat} {w0:Start} {fn:Func} (hE:Ci E) (hP:E.P=P) {fa:List (List Fk)} {fb:List Bf} {σ0:Sg} {ws:World} {σ:Sg} {st:St} {a:Act} {w:World} {r:V×Heap} (h:Ez E B w0 σ st a w) (hx:JH 0 σ0 ws σ w)
  (hz:Zh E fn fa fb 0 st r):FinM P fn B w0 σ0 ws r a w:=by
 obtain⟨r0,hr,he⟩:=hz
 obtain⟨u,hu,hur⟩:=Y5 (P:=P) hE hP h.inv h.slots hr
 have key:∀{args as:List V} {vs:List Value} {ids:List Nat} {H2:Heap},AU σ w args vs->pack fa fb 0 args st.H=some (ids,as,H2)->ids.take 0=List.range 0 ->
   ∃σ',Inv B w0 σ' (G8 H2 ids) w/\JH 0 σ0 ws σ' w/\AU σ' w (Fg (ids.idxOf ·) as) vs:=by
  intro args as vs ids H2 hra hp hk
  obtain⟨hs,hm,_,σ1,hI1,hE1,hr1⟩:=bU h.inv hra hp
  have hsub:=dR hI1 hs w0 hI1.below hI1.old (fun b hb=>by
   obtain⟨k1,k2,k3,k4⟩:=hI1.kept b hb
   grind)
  exact⟨_,hsub,(hx.trans hE1).ren hk,SC hr1 hm⟩
 refine⟨h.calm,u,?_⟩
 unfold Ws at he
 split at he
 ·rename_i vs
  split at he
  ·rename_i ids as H2 hp
   split at he
   ·rename_i hk
    simp only [Option.some.injEq] at he
    subst he
    cases hur with
    | BG h1 _=>
     obtain⟨σ',i1,i2,i3⟩:=key h1 hp hk
     exact⟨σ',hu,i1,i2,.BG i3 .nil⟩
   ·cases he
  ·cases he
 ·split at he
  ·rename_i ids x H2 hp
   split at he
   ·rename_i hk
    simp only [Option.some.injEq] at he
    subst he
    obtain⟨σ',i1,i2,i3⟩:=key hur hp hk
    exact⟨σ',hu,i1,i2,i3⟩
   ·cases he
  ·cases he
def behind (m:Nat) (H:Heap):Heap:=List.replicate m SQ++H.map (Ey (· + m))
theorem VT {m:Nat} {H:Heap} {i:Nat} {b:Box} (h:(behind m H)[i]? = some b):(i<m/\b=SQ)\/∃b0,m<=i/\H[i - m]? = some b0/\b=Ey (· + m) b0:=by
 unfold behind at h
 rw [List.getElem?_append] at h
 split at h
 ·rename_i hi
  rw [List.length_replicate] at hi
  exact .inl ⟨hi,(List.mem_replicate.1 (List.mem_of_getElem? h)).2⟩
 ·rename_i hi
  rw [List.length_replicate] at hi h
  rw [List.getElem?_map,Option.map_eq_some_iff] at h
  obtain⟨b0,h1,h2⟩:=h
  exact .inr ⟨b0,by omega,h1,h2.symm⟩
theorem ZiI {m:Nat} (H:Heap) {i:Nat} (h:i<m):(behind m H)[i]? = some SQ:=by
 unfold behind
 rw [List.getElem?_append,if_pos (by simpa using h)]
 simp [h]
theorem Zk8 {m:Nat} (H:Heap) (i:Nat):(behind m H)[i+m]? = (H[i]?).map (Ey (· + m)):=by
 unfold behind
 rw [List.getElem?_append,if_neg (by simp)]
 simp
def Sg.behind (σ σ1:Sg) (m:Nat):Sg:=⟨fun i=>if i<m then σ.box i else σ1.box (i - m),σ1.fz⟩
theorem ZlK {B:Nat} {w0:Start} {σ σ1:Sg} {H0 H1:Heap} {w w' : World} (h:Inv B w0 σ H0 w) (h1:Inv B w0 σ1 H1 w') (hE:JH 0 σ w σ1 w') :
  Inv B w0 (σ.behind σ1 H0.length) (behind H0.length H1) w' /\ Ext σ w (σ.behind σ1 H0.length) w' :=by
 have hge:∀{i:Nat},H0.length<=i->(σ.behind σ1 H0.length).box i=σ1.box (i - H0.length):=by
  intro i hi
  simp only [Sg.behind,if_neg (Nat.not_lt.2 hi)]
 refine⟨⟨h1.below,h1.size,?_,?_,?_,h1.cells,?_,?_,h1.old,fun b hb=>?_⟩,?_⟩
 ·intro i L hL
  rcases Nat.lt_or_ge i H0.length with hi|hi
  ·exact⟨SQ,ZiI _ hi,.inr rfl⟩
  ·rw [hge hi] at hL
   obtain⟨b,k1,k2⟩:=h1.dom _ L hL
   refine⟨Ey (· + H0.length) b,?_,by rw [(IP _ b).1,(IP _ b).2.1];exact k2⟩
   have:=Zk8 (m:=H0.length) H1 (i - H0.length)
   rw [Nat.sub_add_cancel hi] at this
   rw [this,k1]
   rfl
 ·intro i bx hb hl
  rcases VT hb with ⟨_,rfl⟩|⟨b0,hi,k1,rfl⟩
  ·cases hl
  ·rw [(IP _ b0).1] at hl
   obtain⟨L,hL,hok⟩:=h1.boxes _ b0 k1 hl
   refine⟨L,by rw [hge hi];exact hL,hok.ren _ (fun b c hh=>⟨hh,rfl⟩) (EH.refl _) (fun _ r _=>?_) (fun _ _=>rfl)⟩
   rw [hge (Nat.le_add_left _ _),Nat.add_sub_cancel]
 ·intro i j b1 b2 L1 L2 g p1 p2 l1 l2 s1 s2 g1 g2
  rcases VT p1 with ⟨_,rfl⟩|⟨c1,i1,k1,rfl⟩
  ·cases l1
  ·rcases VT p2 with ⟨_,rfl⟩|⟨c2,i2,k2,rfl⟩
   ·cases l2
   ·rw [hge i1] at s1
    rw [hge i2] at s2
    rw [(IP _ _).1] at l1 l2
    have:=h1.apart _ _ c1 c2 L1 L2 g k1 k2 l1 l2 s1 s2 g1 g2
    omega
 ·intro b c hc i bx L hb hl hL hg
  rcases VT hb with ⟨_,rfl⟩|⟨b0,hi,k1,rfl⟩
  ·cases hl
  ·rw [hge hi] at hL
   rw [(IP _ b0).1] at hl
   rw [(IP _ b0).2.2.2.2.2.1]
   exact h1.floor b c hc _ b0 L k1 hl hL hg
 ·intro i bx hb hl
  rcases VT hb with ⟨_,rfl⟩|⟨b0,hi,k1,rfl⟩
  ·cases hl
  ·obtain⟨e1,_,_,_,_,e6,e7⟩:=IP (· + H0.length) b0
   rw [e6,e7]
   rw [e1] at hl
   exact h1.low _ b0 k1 hl
 ·obtain⟨k1,k2,k3,k4⟩:=h1.kept b hb
  refine⟨k1,k2,fun i L hL=>?_,k4⟩
  rcases Nat.lt_or_ge i H0.length with hi|hi
  ·simp only [Sg.behind,if_pos hi] at hL
   exact(h.kept b hb).2.2.1 i L hL
  ·rw [hge hi] at hL
   exact k3 _ L hL
 ·refine⟨fun i L hL=>⟨L,?_,rfl,.inl rfl⟩,hE.fz,hE.mp⟩
  simp only [Sg.behind,if_pos (h.dC hL)]
  exact hL
theorem ZaI {P:Program} {E:Env} (hE:Ci E) (hP:E.P=P) (hF:MR P E) {n:Nat} {f:FuncId} {fn:Func} (hfn:E.func f=some fn) {c:Code} (hb:fn.body=some c) {as:List V} {H0:Heap} {r:V} {H1:Heap} {fa:List (List Fk)} {fb:List Bf}
  (h:DW (EY E n) E f fn 0 (Zh E fn fa fb 0) (.run c) [] ⟨as++List.replicate (fn.ntmps - as.length) Hf,H0⟩ (r,H1)):Q9 P E f as H0 (Ej (· + H0.length) r) (behind H0.length H1):=by
 obtain⟨hf1,hf2⟩:=hE.func f fn hfn
 rw [hP] at hf1
 intro B w0 σ w vs hI hg hr
 have hslots:AU σ w (as++List.replicate (fn.ntmps - as.length) Hf) (vs.toArray++Array.replicate (fn.ntmps - vs.toArray.size) undef).toList:=by
  simp only [Array.toList_append,Array.toList_replicate,List.size_toArray]
  rw [<- hr.length]
  exact hr.append (AU.replicate _ (.no .nil))
 have hrel:Ez E B w0 σ ⟨as++List.replicate (fn.ntmps - as.length) Hf,H0⟩ { tmps:=vs.toArray++Array.replicate (fn.ntmps - vs.toArray.size) undef,defers:=[] } w:=⟨hI,hg,hslots,rfl⟩
 have hwp:=tC hE hP (aY hE hP hF n B w0) (Rf n) (F:=FinM P fn B w0 σ w) (σ0:=σ) (ws:=w)
  (fun st r σ' a w' hz hr hx=>ZmI hE hP hr hx hz) h (hE.calm f fn c hfn hb) rfl _ _ _ hrel (Ext.refl _ _).k
 have fin:∀{r:V×Heap} {u:Value} {σ' : Sg} {w' : World},Inv B w0 σ' r.2 w' -> JH 0 σ w σ' w' -> AU σ' w' [r.1] [u] ->
   ∃σ'',Inv B w0 σ'' (behind H0.length r.2) w' /\ Ext σ w σ'' w' /\ AU σ'' w' [Ej (· + H0.length) r.1] [u]:=by
  intro r u σ' w' h2 h3 h4
  obtain⟨i1,i2⟩:=ZlK hI h2 h3
  refine⟨_,i1,i2,Z5d h4 (fun b c hh=>⟨hh,rfl⟩) (EH.refl _) (fun id _=>?_)⟩
  simp only [Sg.behind,if_neg (Nat.not_lt.2 (Nat.le_add_left _ _)),Nat.add_sub_cancel]
 refine calls_of_wp hf1 hb ?_
 intro fr k cs
 obtain⟨e,a',w',hq,harr⟩:=hwp fr k cs
 refine⟨e,a',w',?_,harr⟩
 cases e with
 | normal=>
  obtain⟨h0,u,σ',h1,h2,h3,h4⟩:=hq
  obtain⟨σ'',j1,j2,j3⟩:=fin h2 h3 h4
  exact⟨h0,u,h1,u,σ'',rfl,j1,j2,j3⟩
 | ret=>
  obtain⟨h0,u,σ',h1,h2,h3,h4⟩:=hq
  obtain⟨σ'',j1,j2,j3⟩:=fin h2 h3 h4
  exact⟨h0,u,h1,u,σ'',rfl,j1,j2,j3⟩
 | exit id=>exact hq.elim
 | goto l=>exact hq.elim
 | panic c=>exact hq.elim
 | outgrown=>exact hq.elim
section
variable {U:Cm}
def Wn (m:Nat) (r:SV U.Ty×BF U):SV U.Ty×BF U:=(FP (· + m) r.1,List.replicate m .gone++r.2.map (WG (· + m)))
theorem Zlh (m:Nat) (r:SV U.Ty×BF U):AY U (Wn m r).1=Ej (· + m) (AY U r.1)/\BI U (Wn m r).2=behind m (BI U r.2):=by
 refine⟨Vs _ _,?_⟩
 simp only [Wn,BI,behind,List.map_append,List.map_replicate,List.map_map,Ce]
 congr 1
 exact List.map_congr_left fun b _=>jM _ b
theorem Zkd {P:Program} {gl:Nat->Option (List V)} {f:FuncId} {mods:FuncId->Option (Az U)} {hmods:FuncId->List FuncId->Option (HMod U)} {mk:Me P} {E0:Env} (hE0:E0.EP=gl) (hU:D5 U (EV P gl f mods hmods mk)) (hmix:P.follows .mixedOrders=true) {fn:Func} {c:Code}
  (hok:∀g m,mods g=some m->BA P E0 g m) (hhok:∀g k m,hmods g k=some m->E8 P E0 g m) (hfn:P.funcs[f]? = some fn) (hname:(fn.name == "runtime.NumGoroutine")=false) (hb:fn.body=some c) (hcalm:EO (EV P gl f mods hmods mk) f c=true) (m:HMod U)
  {fa:List (List Fk)} {fb:List Bf} {k:Nat} (hk:∀x:m.DR.X U,(m.DR.enc x).2.length=k) {Pt:Type} {A:Nat->Option Lay} {N:Nat} (sh:Shape) (out:U.Ty m.ky->SV U.Ty×BF U) (hout:∀y,m.out y=Wn k (out y)) (T:Pt->Tr U (U.Ty m.ky⊕Pt)) (sp:Pt->BQ U)
  (h:∀p,ED (EV P gl f mods hmods mk) (NI mods hmods mk.tab) A f fn 0 (Qo (EV P gl f mods hmods mk) fn fa fb 0 sh m.one) N (.run (sp p).c) (sp p).K (sp p).st (sp p).sk=(T p).map (OG out sp))
  (b0:m.DR.X U->Pt) (hm:∀x:m.DR.X U,m.fn x=Ad T (b0 x)) (hsp:∀x:m.DR.X U,sp (b0 x)=⟨c,[],TA (m.DR.enc x) fn.ntmps,false⟩):E8 P E0 f m:=by
 have hE:=vO (gl:=gl) (mods:=mods) (hmods:=hmods) hmix hfn hname hb hcalm
 have hF:MR P (EV P gl f mods hmods mk):=qA hU rfl rfl (fun _=>rfl) (fun g m hm=>(hok g m hm).EP (by rw [hE0];rfl)) (fun g k m hm=>(hhok g k m hm).EP (by rw [hE0];rfl)) mk rfl
 have hfn' : (EV P gl f mods hmods mk).func f=some fn:=by simp only [EV,LD,if_true];exact hfn
 refine⟨⟨fn,hfn,by simp [hb],hname⟩,fun x y hx B w0 σ w vs hi hg hr=>?_⟩
 rw [hm] at hx
 have h1:=nZ hU (uD hU) (fun st s hs=>Z6f hU hs) T sp h hx
 rw [hsp,Z3D] at h1
 have h2:=ZaI hE rfl hF hfn' hb h1 B w0 σ w vs hi (fun g r hh=>hg g r (by rw [hE0];exact hh)) hr
 obtain⟨e1,e2⟩:=Zlh k (out y)
 rw [Oy,hk x,<- e1,<- e2,<- hout] at h2
 exact h2
end
end Go.Proofs.YtddbklgndkpipaaGreatDoor.Le
namespace Go.Proofs.YtddbklgndkpipaaGreatDoor.Le
open Go.ChangeShapes Go.WideShapes Go.ChangeAt
end Go.Proofs.YtddbklgndkpipaaGreatDoor.Le
