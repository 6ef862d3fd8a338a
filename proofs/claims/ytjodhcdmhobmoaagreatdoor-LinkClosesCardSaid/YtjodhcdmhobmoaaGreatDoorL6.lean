/-
  A part of the proof.
-/
import Derived.Test.YtjodhcdmhobmoaaGreatDoorL5
import Derived.Carry
import Derived.ProofKit
import Derived.LaidMore
import Derived.MakeChecks
import Derived.FnData
import Derived.OpenShut
set_option linter.unusedVariables false
set_option linter.unusedSimpArgs false
namespace Go.Proofs.YtjodhcdmhobmoaaGreatDoor.Le
open Go.RowKit (Below)
open Go.ChangeShapes
structure ZY (P:Program) {Ty:Nat->Type} {T:Type} (c:Za Ty T) (t:TypeId) (wf:T->Prop):Prop where
 rd:∀(d:Nat) (xs:List V),Z7M P d t xs->∃a,c.ZJ a=xs/\wf a
structure Z1G (P:Program) {Ty:Nat->Type} {T:Type} (c:Za Ty T) (ss:List (Nat×TypeId)) (off n:Nat) (wf:T->Prop):Prop where
 rd:∀(d:Nat) (xs:List V),xs.length=n->(∀s∈ss,Z7M P d s.2 ((xs.drop s.1).take (P.cellsOf s.2)))->∃a,c.ZJ a=xs.drop off/\wf a
def WI (k:IntKind) (a:Int):Prop:=(Lit.int k a).wf=true
def WB (_:Bool):Prop:=True
def WS (s:ByteArray):Prop:=s.size<=maxLen
def WL {α:Type} (p:α->Prop) (xs:List α):Prop:=xs.length<=maxLen/\∀x∈xs,p x
def WU (_:Unit):Prop:=True
section
variable {P:Program} {Ty:Nat->Type} {T:Type}
theorem ZY.int {k:IntKind} {t:TypeId} (ht:P.underlying t=some (.int k)):ZY P (Za.int k:Za Ty Int) t (WI k):=by
 refine⟨fun d xs h=>?_⟩
 cases d with
 | zero=>exact h.elim
 | succ d=>
  unfold Z7M at h
  rw [ht] at h
  obtain⟨n,rfl,hw⟩:=h
  exact⟨n,rfl,hw⟩
theorem ZY.bool {t:TypeId} (ht:P.underlying t=some .bool):ZY P (Za.bool:Za Ty Bool) t WB:=by
 refine⟨fun d xs h=>?_⟩
 cases d with
 | zero=>exact h.elim
 | succ d=>
  unfold Z7M at h
  rw [ht] at h
  obtain⟨n,rfl⟩:=h
  exact⟨n,rfl,trivial⟩
theorem ZY.str {t:TypeId} (ht:P.underlying t=some .string):ZY P (Za.str:Za Ty ByteArray) t WS:=by
 refine⟨fun d xs h=>?_⟩
 cases d with
 | zero=>exact h.elim
 | succ d=>
  unfold Z7M at h
  rw [ht] at h
  obtain⟨n,rfl,hw⟩:=h
  exact⟨n,rfl,hw⟩
theorem ZKM {α:Type} {p:α->Prop} {e:α->V}:∀{xs:List V},(∀x∈xs,∃a,e a=x/\p a)->∃as:List α,as.map e=xs/\∀a∈as,p a:=by
 intro xs
 induction xs with
 | nil=>intro _;exact⟨[],rfl,by simp⟩
 | cons x xs ih=>
  intro h
  obtain⟨a,ha,hp⟩:=h x (by simp)
  obtain⟨as,has,hps⟩:=ih (fun y hy=>h y (by simp [hy]))
  refine⟨a::as,by simp [ha,has],fun b hb=>?_⟩
  rcases List.mem_cons.1 hb with rfl|hb
  ·exact hp
  ·exact hps b hb
theorem ZY.rows {t e n:Nat} {c:Za Ty (Ty e)} {wf:Ty e->Prop} (ht:P.underlying t=some (.slice e)) (hn:P.cellsOf e=n) (hr:Z7Y P e=true) (hc:ZY P c e wf) :
  ZY P (Za.list e n (fun a=>.agg (c.ZJ a)):Za Ty (List (Ty e))) t (WL wf):=by
 refine⟨fun d xs h=>?_⟩
 cases d with
 | zero=>exact h.elim
 | succ d=>
  unfold Z7M at h
  rw [ht] at h
  obtain⟨ys,rfl,hl,hy⟩:=h
  obtain⟨as,has,hp⟩:=ZKM (p:=wf) (e:=fun a=>V.agg (c.ZJ a)) (xs:=ys) (fun y hy' =>by
   obtain⟨h1,h2⟩:=hy y hy'
   rw [if_pos hr] at h1
   obtain⟨ds,rfl⟩:=h1
   obtain⟨a,ha,hw⟩:=hc.rd d _ h2
   exact⟨a,by rw [ha];rfl,hw⟩)
  subst hn
  exact⟨as,by simp only [Za.list,has],by rw [<- List.length_map (f:=fun a=>V.agg (c.ZJ a)),has];exact hl,hp⟩
theorem ZY.ones {t e n:Nat} {c:Za Ty (Ty e)} {wf:Ty e->Prop} (ht:P.underlying t=some (.slice e)) (hn:P.cellsOf e=n) (hr:Z7Y P e=false) (hc:ZY P c e wf) :
  ZY P (Za.list e n (fun a=>c.ZU a):Za Ty (List (Ty e))) t (WL wf):=by
 refine⟨fun d xs h=>?_⟩
 cases d with
 | zero=>exact h.elim
 | succ d=>
  unfold Z7M at h
  rw [ht] at h
  obtain⟨ys,rfl,hl,hy⟩:=h
  obtain⟨as,has,hp⟩:=ZKM (p:=wf) (e:=fun a=>c.ZU a) (xs:=ys) (fun y hy' =>by
   obtain⟨h1,h2⟩:=hy y hy'
   rw [if_neg (by simp [hr])] at h1
   obtain⟨a,ha,hw⟩:=hc.rd d _ h2
   exact⟨a,by simp only [Za.ZU,ha,h1];rfl,hw⟩)
  subst hn
  exact⟨as,by simp only [Za.list,has],by rw [<- List.length_map (f:=fun a=>c.ZU a),has];exact hl,hp⟩
theorem Z1G.unit {off n:Nat} (h:off=n):Z1G P (Za.unit:Za Ty Unit) [] off n WU:=by
 refine⟨fun d xs hl _=>⟨(),?_,trivial⟩⟩
 subst h
 rw [<- hl,List.drop_length]
 rfl
theorem Z1G.pair {A B:Type} {a:Za Ty A} {b:Za Ty B} {t off n k:Nat} {ss:List (Nat×TypeId)} {wa:A->Prop} {wb:B->Prop} (ha:ZY P a t wa) (hk:P.cellsOf t=k) (hb:Z1G P b ss (off+k) n wb) :
  Z1G P (Za.pair a b) ((off,t)::ss) off n (fun x=>wa x.1/\wb x.2):=by
 refine⟨fun d xs hl h=>?_⟩
 obtain⟨x,hx,hwx⟩:=ha.rd d _ (h (off,t) (by simp))
 obtain⟨y,hy,hwy⟩:=hb.rd d xs hl (fun s hs=>h s (by simp [hs]))
 refine⟨(x,y),?_,hwx,hwy⟩
 simp only [Za.pair,hx,hy]
 rw [hk,<- List.drop_drop,List.take_append_drop]
theorem ZY.row {c:Za Ty T} {t n:Nat} {dd:TypeDesc} {ss:List (Nat×TypeId)} {wf:T->Prop} (ht:P.underlying t=some dd) (hss:Z7Q P dd=some ss) (hn:P.cellsOf t=n) (h:Z1G P c ss 0 n wf):ZY P c t wf:=by
 refine⟨fun d xs hx=>?_⟩
 cases d with
 | zero=>exact hx.elim
 | succ d=>
  unfold Z7M at hx
  rw [ht] at hx
  have key:xs.length=P.cellsOf t/\∀s∈ss,Z7M P d s.2 ((xs.drop s.1).take (P.cellsOf s.2)):=by
   cases dd with
   | struct fs=>simp only at hx;rw [hss] at hx;exact hx
   | array m e=>simp only at hx;rw [hss] at hx;exact hx
   | _=>simp [Z7Q] at hss
  obtain⟨a,ha,hw⟩:=h.rd d xs (key.1.trans hn) key.2
  exact⟨a,by simpa using ha,hw⟩
theorem ZY.iso {A B:Type} {f:A->B} {g:B->A} {b:Za Ty B} {t:TypeId} {wf:B->Prop} (hb:ZY P b t wf) (hfg:∀y,f (g y)=y):ZY P (Za.iso f g b) t (fun x=>wf (f x)):=by
 refine⟨fun d xs h=>?_⟩
 obtain⟨y,hy,hw⟩:=hb.rd d xs h
 exact⟨g y,by simp only [Za.iso,hfg];exact hy,by rw [hfg];exact hw⟩
end
structure ZPv (P:Program) (U:Z5V) (t:TypeId) (wf:U.Ty t->Prop):Prop where
 rd:∀d xs,Z7M P d t xs->∃a,U.enc t a=ZJ3 P t xs/\wf a
theorem ZPv.rows {P:Program} {U:Z5V} {t:TypeId} {c:Za U.Ty (U.Ty t)} {wf:U.Ty t->Prop} (hr:Z7Y P t=true) (hc:ZY P c t wf) (he:∀a,U.enc t a = .agg (c.ZJ a)):ZPv P U t wf:=by
 refine⟨fun d xs h=>?_⟩
 obtain⟨a,ha,hw⟩:=hc.rd d xs h
 exact⟨a,by rw [he,ha];simp [ZJ3,hr],hw⟩
theorem ZPv.ones {P:Program} {U:Z5V} {t:TypeId} {c:Za U.Ty (U.Ty t)} {wf:U.Ty t->Prop} (hr:Z7Y P t=false) (hc:ZY P c t wf) (he:∀a,U.enc t a=c.ZU a):ZPv P U t wf:=by
 refine⟨fun d xs h=>?_⟩
 obtain⟨a,ha,hw⟩:=hc.rd d xs h
 exact⟨a,by rw [he];simp [ZJ3,hr,Za.ZU,ha],hw⟩
inductive ZyQ (P:Program) (U:Z5V):(ts:List Nat)->(Zor U ts->Prop)->Prop where
 | nil:ZyQ P U [] (fun _=>True)
 | cons {t ts wf W}:ZPv P U t wf->ZyQ P U ts W->ZyQ P U (t::ts) (fun x=>wf x.1/\W x.2)
theorem ZNu {P:Program} {U:Z5V} {ts:List Nat} {W:Zor U ts->Prop} (h:ZyQ P U ts W):∀{d:Nat} {as:List V},Zj8 P d ts as->∃x:Zor U ts,Z23 ts x=as/\W x:=by
 induction h with
 | nil=>intro d as ha;cases ha;exact⟨(),rfl,trivial⟩
 | cons ht _ ih=>
  intro d as ha
  cases ha with
  | cons h1 h2=>
   obtain⟨a,ha,hw⟩:=ht.rd _ _ h1
   obtain⟨x,hx,hW⟩:=ih h2
   exact⟨(a,x),by simp [Z23,ha,hx],hw,hW⟩
section
variable {H:Type} {enc:TypeId×Value->H} {P:Program}
theorem Zjp {W W' : World} {sp:Nat->Bool} (hl:laidOutB P=true):∀{ts:List TypeId} {vs:List Value} {ds:List (DataW H)} {ps:List MemPlace},(∀t∈ts,P.readableRec t=true/\t<P.types.size) ->
  DataW.TrodAll enc P W 0 (fun _=>true) true ts vs ds ps->Below W.heap.size W W' -> (∀p∈ps,p.block<W.heap.size)->(∀p∈ps,sp p.block=true)->DataW.TrodAll enc P W' 0 sp true ts vs ds ps
 | [],[],[],_,_,h,_,_,_=>h
 | t::ts,v::vs,d::ds,_,ht,⟨p,q,h1,h2,e⟩,hb,hlt,hsp=>
  ⟨p,q,WideElems.Trod_stays hl (ht t (by simp)).1 (ht t (by simp)).2 h1 (fun x hx=>hb.same (hlt x (by rw [e];exact List.mem_append_left _ hx))) (fun x hx=>hsp x (by rw [e];exact List.mem_append_left _ hx)),
   Zjp hl (fun t ht' =>ht t (by simp [ht'])) h2 hb (fun x hx=>hlt x (by rw [e];exact List.mem_append_right _ hx)) (fun x hx=>hsp x (by rw [e];exact List.mem_append_right _ hx)),e⟩
theorem ZMO {f:Func} {s:ChangeSpec} {apart fresh handsOn again:Bool} {W W' : World} {args:Array Value} {ds gs:List (DataW H)} {before:List MemPlace} {tb:TypeId} (hl:laidOutB P=true) (hts:∀t∈f.params.toList,P.readableRec t=true/\t<P.types.size)
  (hW:DataW.Whole enc P f.params.toList s.vars apart W args.toList ds gs before) (hb:Below W.heap.size W W') (hr:f.resultTypes = #[tb]) (htb:P.underlying tb=some .bool)
  (h1:(s.fn H (ds++gs)).results=[.lit (.bool true)]) (h2:(s.fn H (ds++gs)).args=ds) (h3:(s.fn H (ds++gs)).vars=gs)
  (hvars:∀(pv:List MemPlace),DataW.TrodVars enc P W (fun _=>true) s.vars gs pv->(∀p∈pv,p.block<W.heap.size)->∀sp:Nat->Bool,(∀p∈pv,sp p.block=true)->DataW.TrodVars enc P W' sp s.vars gs pv) :
  s.post enc P f apart fresh handsOn again W args (.bool true) W' :=by
 have hlt:=hW.lt
 have hW0:=hW
 obtain⟨pa,pv,hA,hV,hps,hz,hn⟩:=hW
 have hold:∀p∈before,(fun b=>decide (b<W.heap.size)) p.block=true:=fun p hp=>by simpa using hlt p hp
 have hpa:∀p∈pa,p∈before:=fun p hp=>by rw [hps];exact List.mem_append_left _ hp
 have hpv:∀p∈pv,p∈before:=fun p hp=>by rw [hps];exact List.mem_append_right _ hp
 have hargs:∀sp:Nat->Bool,(∀p∈before,sp p.block=true)->DataW.TrodAll enc P W' 0 sp true f.params.toList args.toList (s.fn H (ds++gs)).args pa:=fun sp hsp=>by
  rw [h2];exact Zjp hl hts hA hb (fun p hp=>hlt p (hpa p hp)) (fun p hp=>hsp p (hpa p hp))
 have hvs:∀sp:Nat->Bool,(∀p∈before,sp p.block=true)->DataW.TrodVars enc P W' sp s.vars (s.fn H (ds++gs)).vars pv:=fun sp hsp=>by
  rw [h3];exact hvars pv hV (fun p hp=>hlt p (hpv p hp)) sp (fun p hp=>hsp p (hpv p hp))
 have hres:∀(b:Nat) (sp:Nat->Bool) (hd:Bool),DataW.TrodAll enc P W' b sp hd f.resultTypes.toList ((Value.bool true).resultList f.resultTypes.size) (s.fn H (ds++gs)).results []:=fun b sp hd=>by
  rw [h1,hr];exact trodAll_cons_mk (p:=[]) (p' :=[]) (RowKit.shut_bool htb _) trodAll_mk0
 refine⟨ds,gs,before,[],pa,pv,hW0,hres _ _ _,hargs _ hold,hvs _ hold,World.keptBut_mono (fun p hp=>⟨hp,?_⟩) (hb.frame (·∈before)),fun _=>?_⟩
 ·rw [hps,List.mem_append] at hp
  exact Or.inr hp
 ·refine⟨RowKit.ok_one hr rfl (RowKit.okWide_bool_mk htb _),_,_,([]++pa)++pv,⟨[]++pa,pv,trodAll_append (hargs _ (fun _ _=>rfl)) (hres _ _ _),hvs _ (fun _ _=>rfl),rfl,?_,?_⟩,?_⟩
  ·intro b off hp
   have hm:MemPlace.cell b off∈before:=by rw [hps];simpa using hp
   rw [hb.frozen (p:=⟨b,off,none⟩) (hlt _ hm)]
   exact hz b off hm
  ·intro ha
   have:=hn ha
   rw [hps] at this
   simpa using this
  ·intro p hp _
   rw [hps]
   simpa using hp
theorem ZR0 {U:Z5V} {E0:Env} {f:FuncId} {fn:Func} {m:Mod U} {s:ChangeSpec} {apart fresh handsOn again:Bool} {tb:TypeId} (hok:Z0a P E0 f m) {Wf:Zor U m.ts->Prop} (hrd:ZyQ P U m.ts Wf) (hpar:fn.params.toList=m.ts) {d:Nat} (hpl:∀t∈m.ts,Zi6 P d t=true)
  (hl:laidOutB P=true) (hts:∀t∈m.ts,P.readableRec t=true/\t<P.types.size) (hr:fn.resultTypes = #[tb]) (htb:P.underlying tb=some .bool) {tt:U.Ty m.rt} (htt:U.enc m.rt tt = .lit (.bool true)) (htrue:∀x,Wf x->m.fn x=some tt)
  (hspec:∀(ds gs:List (DataW H)),ds.length=m.ts.length->gs.length=s.vars.length->(s.fn H (ds++gs)).results=[.lit (.bool true)]/\(s.fn H (ds++gs)).args=ds/\(s.fn H (ds++gs)).vars=gs)
  {W:World} {args:Array Value} {ds gs:List (DataW H)} {before:List MemPlace} (hval:∀(j:Nat) t v,fn.params[j]? = some t->args[j]? = some v->∃r b0,Value.okWide P W r b0 t v)
  (hW:DataW.Whole enc P fn.params.toList s.vars apart W args.toList ds gs before) (hg:Z0Q E0 (bare (Zo9 W)) W)
  (hvars:∀(W' : World),Below W.heap.size W W' -> ∀(pv:List MemPlace),DataW.TrodVars enc P W (fun _=>true) s.vars gs pv->(∀p∈pv,p.block<W.heap.size)->∀sp:Nat->Bool,(∀p∈pv,sp p.block=true)->DataW.TrodVars enc P W' sp s.vars gs pv)
  (hdl:ds.length=m.ts.length) (hgl:gs.length=s.vars.length) :
  Calls P f args W fun e W' =>∃v,e = .returned v/\s.post enc P fn apart fresh handsOn again W args v W' :=by
 have hW0:=hW
 obtain⟨pa,pv,hA,hV,hps,hz,hn⟩:=hW
 rw [hpar] at hA
 obtain⟨as,hreps,hread⟩:=ZPZ hA hpl (fun j t v hj hv=>hval j t v (by rw [<- Array.getElem?_toList,hpar];exact hj) (by rw [<- Array.getElem?_toList];exact hv))
 obtain⟨x,hx,hwf⟩:=ZNu hrd hread
 have hcall:=hok.pure x tt (htrue x hwf) (Zo9 W) W args.toList (fun b c hh=>hh) hg (by rw [hx];exact hreps)
 refine hcall.mono ?_
 rintro e W' ⟨u,fz',rfl,hb,_,_,_,hru,_⟩
 rw [htt] at hru
 cases hru with
 | lit _ _=>
  obtain⟨s1,s2,s3⟩:=hspec ds gs hdl hgl
  exact⟨_,rfl,ZMO hl (by rw [hpar];exact hts) hW0 hb hr htb s1 s2 s3 (hvars W' hb)⟩
end
def ZOO (n by' : Nat):List V->Option V
 | [.sl false e xs]=>if e=n/\xs.length*by' <= lim/\xs.length<=maxLen then some (.sl false e xs) else none
 | _=>none
def ZNv (cl:List (Nat×Nat×Nat×Nat)):FuncId->Option (List V->Option V):=fun g=>(cl.find? fun p=>p.1==g).map fun p=>ZOO p.2.1 p.2.2.1
def ZQb (cl:List (Nat×Nat×Nat×Nat)):FuncId->Option TypeId:=fun g=>(cl.find? fun p=>p.1==g).map fun p=>p.2.2.2
structure Zfo (P:Program) (f n by' e:Nat):Prop where
 entered:ZaK P f
 pure:∀(E:Env) (xs:List V),xs.length*by' <= lim->xs.length<=maxLen->ZgL P E f [.sl false n xs] (.sl false n xs)
 own:∀(E:Env) (xs:List V),xs.length*by' <= lim->xs.length<=maxLen->Zu3 P E f [.sl false n xs] e n xs
theorem ZJ5 {P:Program} {E:Env} {cl:List (Nat×Nat×Nat×Nat)} (hE:E.env=ZNv cl) (ho:E.own=ZQb cl) (hhm:∀f k,E.hm f k=none) (h:∀p∈cl,Zfo P p.1 p.2.1 p.2.2.1 p.2.2.2):Znv P E:=by
 refine⟨?_,fun f key hs h=>by rw [hhm] at h;cases h⟩
 intro f F hF
 rw [hE] at hF
 unfold ZNv at hF
 cases hp:cl.find? (fun p=>p.1==f) with
 | none=>simp [hp] at hF
 | some p=>
  simp only [hp,Option.map_some,Option.some.injEq] at hF
  subst hF
  have hm:=h p (List.mem_of_find?_eq_some hp)
  have hf:p.1=f:=by simpa using List.find?_some hp
  rw [hf] at hm
  have hown:E.own f=some p.2.2.2:=by rw [ho];unfold ZQb;rw [hp];rfl
  refine⟨hm.entered,fun as r _ hr=>?_⟩
  rw [hown]
  intro sz xs hr0
  subst hr0
  unfold ZOO at hr
  split at hr
  ·split at hr
   ·rename_i hc
    simp only [Option.some.injEq,V.sl.injEq] at hr
    obtain⟨_,rfl,rfl⟩:=hr
    rw [hc.1]
    exact hm.own E _ hc.2.1 hc.2.2
   ·cases hr
  ·cases hr
noncomputable def EC (P:Program) (gl:Nat->Option (List V)) (fs:List FuncId) (pu:FuncId->Bool) (bad:List (Nat×Nat):=[]) (cl:List (Nat×Nat×Nat×Nat):=[]):Env:=
 { Z6N P pu (ZNv cl) with
  func:=fun g=>if fs.contains g then P.funcs[g]? else none
  ZdT:=gl
  own:=ZQb cl
  calm:=fun f id=>!(bad.any fun p=>p.1==f&&p.2==id) }
noncomputable def Zvi (P:Program) (gl:Nat->Option (List V)) (fs:List FuncId) (pu:FuncId->Bool) (bad:List (Nat×Nat):=[]) (cl:List (Nat×Nat×Nat×Nat):=[]):Bool:=
 fs.all fun g=>match P.funcs[g]? with
  | some fn=>!(fn.name == "runtime.NumGoroutine")&&(match fn.body with|some c=>Z4G (EC P gl fs pu bad cl) g c|none=>true)
  | none=>true
theorem ZSo {P:Program} {gl:Nat->Option (List V)} {fs:List FuncId} {pu:FuncId->Bool} {bad:List (Nat×Nat)} {cl:List (Nat×Nat×Nat×Nat)} (hmix:P.follows .mixedOrders=true) (hck:Zvi P gl fs pu bad cl=true):Z12 (EC P gl fs pu bad cl):=by
 have hck:=List.all_eq_true.1 hck
 refine⟨fun t i h=>h,?_,hmix,?_,?_,?_,?_,fun t ks h=>h,?_⟩
 ·intro g fn h
  simp only [EC] at h
  split at h
  ·rename_i hg
   have:=hck g (by simpa using hg)
   rw [h] at this
   simp only [Bool.and_eq_true,Bool.not_eq_true'] at this
   exact⟨h,this.1⟩
  ·cases h
 ·intro g fn c h hb
  simp only [EC] at h
  split at h
  ·rename_i hg
   have:=hck g (by simpa using hg)
   rw [h] at this
   simp only [hb,Bool.and_eq_true] at this
   exact this.2
  ·cases h
 ·intro t k h
  simp only [EC,Z6N] at h
  split at h
  ·rename_i d hd
   simp only [Option.some.injEq] at h
   subst h
   exact hd
  ·cases h
 ·intro t h
  simp only [EC,Z6N] at h
  split at h
  ·rename_i hd;exact hd
  ·cases h
 ·intro t h
  simp only [EC,Z6N] at h
  split at h
  ·rename_i hd;exact hd
  ·cases h
 ·intro t h
  simp only [EC,Z6N] at h
  split at h
  ·rename_i e he
   split at h
   ·rename_i hd;exact⟨e,he,hd⟩
   ·cases h
  ·cases h
theorem ZoS {H:Type} {enc:TypeId×Value->H} {P:Program} {w:World} {base:Nat} {spare:Nat->Bool} {held:Bool}:∀{ts:List TypeId} {vs:List Value} {ds:List (DataW H)} {ps:List MemPlace},DataW.TrodAll enc P w base spare held ts vs ds ps->ds.length=ts.length
 | [],[],[],_,_=>rfl
 | _::_,_::_,_::_,_,⟨_,_,_,h,_⟩=>congrArg (· + 1) (ZoS h)
theorem ZMj {U:Z5V} {P:Program} {gl:Nat->Option (List V)} {fs:List FuncId} {pu:FuncId->Bool} {bad:List (Nat×Nat)} {cl:List (Nat×Nat×Nat×Nat)} {E0:Env} (hE0:E0.ZdT=gl) (hmix:P.follows .mixedOrders=true) (hck:Zvi P gl fs pu bad cl=true) (hcl:∀p∈cl,Zfo P p.1 p.2.1 p.2.2.1 p.2.2.2) {f:FuncId} (hne:ZNv cl f=none) (hf:fs.contains f=true) (hp:pu f=true) {fn:Func} (hfn:P.funcs[f]? = some fn)
  (hb:fn.body.isNone=false) {n:Nat} {m:Mod U} (hts:m.ts=[]) {a:U.Ty m.rt} (hm:∀x,m.fn x=some a) (h:(Z49 (EC P gl fs pu bad cl) (n+1) f [] []).map (·.1)=some (U.enc m.rt a)):Z0a P E0 f m:=by
 have hE:=ZSo hmix hck
 have hname:(fn.name == "runtime.NumGoroutine")=false:=(hE.func f fn (by simp only [EC,hf,if_true];exact hfn)).2
 refine⟨⟨fn,hfn,hb,hname⟩,fun x a' hx=>?_⟩
 rw [hm x] at hx
 cases hx
 cases hc:Z49 (EC P gl fs pu bad cl) (n+1) f [] [] with
 | none=>simp [hc] at h
 | some rr=>
  obtain⟨r,H'⟩:=rr
  simp only [hc,Option.map_some,Option.some.injEq] at h
  subst h
  have hpf:=ZKh hE rfl (ZJ5 rfl rfl (fun _ _=>rfl) hcl) hp hne rfl hc
  have he:Z23 m.ts x=[]:=by
   have hl:=Zgy x
   exact List.eq_nil_of_length_eq_zero (by rw [hl,congrArg List.length hts];rfl)
  rw [he]
  intro fz w vs hcells hg hr
  exact hpf fz w vs hcells (fun g r hh=>hg g r (by rw [hE0];exact hh)) hr
def ZNA:Operand:=.const (.slice none 0 0)
def ZLe (t:TypeId):Code:=.seq (.region 2 #[.mk (some 2) (.assign ZNA) t "slices.go:358" #[] none] false) .ret
def ZFs (t:TypeId):Code:=.seq (.region 3 #[.mk (some 5) (.buildSlice t 0 #[]) t "slices.go:362" #[] none,.mk (some 6) (.move (.tmp 0)) t "slices.go:362" #[] none,
 .mk (some 7) (.call (.mk (.builtin .append) #[.tmp 5,.tmp 6] #[t,t])) t "slices.go:362" #[.mk 0 .data,.mk 1 .data] none,
 .mk (some 2) (.assign (.tmp 7)) t "slices.go:362" #[.mk 2 .data,.mk 2 .chain,.mk 0 .phase,.mk 1 .phase,.mk 2 .phase] none] false) .ret
def Zpa (t tb:TypeId):Array Oper:=#[.mk (some 3) (.move (.tmp 0)) t "slices.go:357" #[] none,.mk (some 4) (.binOp .eql t (.tmp 3) ZNA t) tb "slices.go:357" #[.mk 0 .data] none]
def ZFH (t tb:TypeId):Code:=
 .seq (.region 0 #[.mk (some 2) (.assign ZNA) t "slices.go:355" #[] none] false) (.seq (.seq (.region 1 (Zpa t tb) false) (.cond (.tmp 4) (ZLe t) .skip)) (ZFs t))
section
variable {P:Program} {E:Env} {B:Nat} {w0:Start} {call:Z24}
theorem ZwZ (w:World) (d:Nat) (t e:TypeId) (a:Option Addr) (l c:Nat) (h:P.underlying t=some (.slice e)):(Op.equalIn (d+1) t (.slice a l c) (.slice none 0 0)).run P w = .ok a.isNone w:=by
 cases a<;>simp [Op.equalIn,run_underlying h]
theorem ZI8 (w:World) (t e:TypeId) (a:Option Addr) (l c:Nat) (h:P.underlying t=some (.slice e)):(Op.equal t (.slice a l c) (.slice none 0 0)).run P w = .ok a.isNone w:=ZwZ w 9999 t e a l c h
theorem ZKu {t e:TypeId} {y z:Operand} {v:Value} {w:World} (ht:P.underlying t=some (.slice e)) (hv:∃a n c,v = .slice a n c/\(a=none->n=0)) :
  ∃b,(do eqGuard .eql t y z v (.slice none 0 0);binOp .eql t v (.slice none 0 0)).run P w = .ok (.bool b) w/\(b=true->∃c,v = .slice none 0 c):=by
 obtain⟨a,n,c,rfl,h0⟩:=hv
 refine⟨a.isNone,?_,fun h=>?_⟩
 ·simp only [Sem.run_bind]
  rw [Z36 _ _ _ _ _ _ (by simp) (by simp)]
  simp [binOp,ZI8 w t e a n c ht]
 ·cases a with
  | none=>exact⟨c,by rw [h0 rfl]⟩
  | some a=>cases h
theorem ZNi (hE:Z12 E) (hP:E.P=P) (hcall:Z9R P E B w0 call) {id:Nat} {t tb e n:TypeId} (ht:P.underlying t=some (.slice e)) {st:St} {σ:Sg} {a:Act} {w:World} (hr:Rel E B w0 σ st a w)
  {xs:List V} (hx:ev E st.s (.tmp 0) = .sl false n xs) (h3:3<st.s.length) {Q:Exit->Act->World->Prop}
  (hq:∀b a',Rel E B w0 σ ⟨setSlot (setSlot st.s (some 3) (.sl false n xs)) (some 4) (.lit (.bool b)),st.H⟩ a' w->(b=true->xs=[])->Q .normal a' w) :
  (Code.region id (Zpa t tb) false).wp P Q a w:=by
 refine wp_region ?_
 show wpOps P (Zpa t tb) Q [0,1] a w
 have hv:∃v,a.eval (.tmp 0)=v/\Zx σ w [.sl false n xs] [v]:=by
  have:=Z0P (a:=a) hr.ZdT hr.slots (.tmp 0)
  rw [hx] at this
  exact⟨_,rfl,this⟩
 obtain⟨v,hv,hrv⟩:=hv
 rw [wpOps_cons]
 unfold wpOp
 have h0:(Zpa t tb)[0]? = some (.mk (some 3) (.move (.tmp 0)) t "slices.go:357" #[] none):=rfl
 have h1:(Zpa t tb)[1]? = some (.mk (some 4) (.binOp .eql t (.tmp 3) ZNA t) tb "slices.go:357" #[.mk 0 .data] none):=rfl
 simp only [h0]
 rw [if_pos (show Region.wanted _ _=true from rfl)]
 refine .inl (Z2t (s:=pure v) (u:=v) (w' :=w) (by unfold execOp;simp [hv]) (by simp [Sem.run_pure]) ?_)
 rw [wpOps_cons]
 unfold wpOp
 simp only [h1]
 rw [if_pos (show Region.wanted _ _=true from rfl)]
 have hr1:Rel E B w0 σ ⟨setSlot st.s (some 3) (.sl false n xs),st.H⟩ (a.put (some 3) v) w:=⟨hr.inv,hr.ZdT,ZjK hr.slots hrv (some 3),Zou hr.calm _ _⟩
 have hev:(a.put (some 3) v).eval (.tmp 3)=v:=by
  have:3<a.tmps.size:=by
   have:=hr.slots.length
   simp only [Array.length_toList] at this
   omega
  simp [Act.put,Act.eval,this]
 have hsh:∃a n c,v = .slice a n c/\(a=none->n=0)/\(a=none->xs=[]):=by
  cases hrv with
  | Z4u _=>exact⟨none,0,0,rfl,fun _=>rfl,fun _=>rfl⟩
  | Z6h a _=>exact⟨some a,0,0,rfl,fun h=>(by cases h),fun h=>(by cases h)⟩
  | sl b o c e' h1 h2 h3 h4 h5 h6 h7 _=>exact⟨some _,_,_,rfl,fun h=>(by cases h),fun h=>(by cases h)⟩
 obtain⟨va,vn,vc,hvs,hvn,hvx⟩:=hsh
 obtain⟨b,hb1,hb2⟩:=ZKu (P:=P) (t:=t) (e:=e) (y:=.tmp 3) (z:=ZNA) (w:=w) ht ⟨va,vn,vc,hvs,hvn⟩
 refine .inl (Z2t (s:=do eqGuard .eql t (.tmp 3) ZNA v (.slice none 0 0);binOp .eql t v (.slice none 0 0)) (u:=.bool b) ?_ hb1 ?_)
 ·unfold execOp
  simp only [hev]
  rfl
 ·show Q .normal _ _
  refine hq b _ ⟨hr1.inv,hr1.ZdT,ZjK hr1.slots (.lit rfl .nil) (some 4),Zou hr1.calm _ _⟩ (fun h=>?_)
  obtain⟨c,hc⟩:=hb2 h
  rw [hvs] at hc
  cases hc
  exact hvx rfl
theorem Zya (hmix:P.follows .mixedOrders=true) {f:FuncId} {fn:Func} {t tb e:TypeId} {i1 i2:Nat} {iz:Option V} {ei:TI} {z:V} (hfn:P.funcs[f]? = some fn) (hbody:fn.body=some (ZFH t tb)) (hnt:fn.ntmps=8) (hres:fn.results = #[.tmp 2])
  (hti:ZF6 P t=some ⟨.slice e,i1,i2,iz⟩) (htu:P.underlying t=some (.slice e)) (hei:ZF6 P e=some ei) (hez:ei.zero=some z) (hpos:0<ei.size) (hzl:z.cells.length=ei.size) (hzo:okV z=true)
  {xs:List V} (h1:xs.length*ei.bytes<=lim) (h2:xs.length<=maxLen) (fz:Nat->Nat->Prop) (w:World) (vs:List Value) (hcells:∀b c,fz b c->∃u,w.cell? ⟨b,c,none⟩=some u) (hr:Zx (bare fz) w [.sl false ei.size xs] vs) :
  Calls P f vs.toArray w fun e' w' =>∃u σ',e' = .returned u/\Inv w.heap.size (Start.of w fz) σ' [ZW true false e ei.size [],ZW true false e ei.size xs] w' /\ Ext (bare fz) w σ' w' /\ Zx σ' w' [.lsl 1 0 xs.length xs.length] [u]:=by
 have hck:Zvi P (fun _=>none) [] (fun _=>false) []=true:=rfl
 have hE:=ZSo (P:=P) (gl:=fun _=>none) (fs:=[]) (pu:=fun _=>false) (bad:=[]) hmix hck
 generalize hE0:EC P (fun _=>none) [] (fun _=>false) []=E0 at hE
 have hP:E0.P=P:=by rw [<- hE0];rfl
 have t1:E0.ti t=some ⟨.slice e,i1,i2,iz⟩:=by rw [<- hE0];exact hti
 have t2:E0.ti e=some ei:=by rw [<- hE0];exact hei
 have hcm:∀g id,E0.calm g id=true:=fun g id=>by rw [<- hE0];rfl
 have hI:Inv w.heap.size (Start.of w fz) (bare fz) [] w:=⟨Below.refl _ w,Nat.le_refl _,fun id L hL=>(by cases hL),fun id bx hb=>by simp at hb,fun i j b1 b2 L1 L2 g h1=>by simp at h1,hcells,
  fun b c hc id bx L hb=>by simp at hb,fun id bx hb=>by simp at hb,fun b c hc _=>hc,fun b hb=>hb.elim⟩
 have hg0:Z0Q E0 (bare fz) w:=fun g r hh=>by rw [<- hE0] at hh;cases hh
 have hcall:Z9R P E0 w.heap.size (Start.of w fz) (Z49 E0 0):=fun f args H x H' σ w vs h=>by cases h
 have hpure:ZaO E0 (Z49 E0 0):=Z6g 0
 have hlp:=ZCl (f:=f) hE hP hcall hpure 0
 ·refine calls_of_wp hfn hbody ?_
  have hslots:Zx (bare fz) w ([.sl false ei.size xs]++List.replicate 7 Z17) (vs.toArray++Array.replicate (fn.ntmps - vs.toArray.size) undef).toList:=by
   simp only [Array.toList_append,Array.toList_replicate,List.size_toArray]
   rw [<- hr.length,hnt]
   exact hr.append (Zx.replicate _ (.no .nil))
  have hrel:Rel E0 w.heap.size (Start.of w fz) (bare fz) ⟨[.sl false ei.size xs]++List.replicate 7 Z17,[]⟩ { tmps:=vs.toArray++Array.replicate (fn.ntmps - vs.toArray.size) undef,defers:=[] } w:=⟨hI,hg0,hslots,rfl⟩
  have hfin:∀(s:List V),Z45 E0 [ZW true false e ei.size [],ZW true false e ei.size xs] s fn.results.toList=some (.lsl 1 0 xs.length xs.length)->∀a' w' σ',Rel E0 w.heap.size (Start.of w fz) σ' ⟨s,[ZW true false e ei.size [],ZW true false e ei.size xs]⟩ a' w' -> Ext (bare fz) w σ' w' ->
    a'.defers=[]/\∃v,(results fn a'.tmps).run P w' = .ok v w' /\ (fun e' w' =>∃u σ',e' = Ending.returned u/\Inv w.heap.size (Start.of w fz) σ' [ZW true false e ei.size [],ZW true false e ei.size xs] w' /\ Ext (bare fz) w σ' w' /\ Zx σ' w' [.lsl 1 0 xs.length xs.length] [u]) (.returned v) w' :=by
   intro s hx a' w' σ' hr' he'
   obtain⟨u,hu,hur⟩:=ZfJ (P:=P) hE hP hr'.inv hr'.slots hx
   exact⟨hr'.calm,u,hu,u,σ',rfl,hr'.inv,he',hur⟩
  have c0:∀lp,Z7y (Z49 E0 0) lp E0 f (.region 0 #[.mk (some 2) (.assign ZNA) t "slices.go:355" #[] none] false) ⟨[.sl false ei.size xs]++List.replicate 7 Z17,[]⟩ =
    some (.normal,⟨[.sl false ei.size xs,Z17,.lsl 0 0 0 0,Z17,Z17,Z17,Z17,Z17],[ZW true false e ei.size []]⟩):=by
   intro lp
   simp [Z7y,ZIY,stepD,Zam,ZmD,opD,ZNA,t1,Env.size,t2,place,setSlot,List.range,List.range.loop,List.replicate]
  refine wp_seq (ZiG hE hP hcall hpure hlp _ _ .normal _ rfl (c0 _) _ _ _ _ hrel (fun a1 w1 σ1 hr1 he1=>?_))
  show (Code.seq _ _).wp P _ a1 w1
  refine wp_seq (wp_seq (ZNi hE hP hcall htu hr1 (xs:=xs) (n:=ei.size) rfl (by simp) (fun b a2 hr2 hb=>?_)))
  show (Code.cond _ _ _).wp P _ a2 w1
  refine wp_cond (t:=b) ?_ ?_
  ·have:=Z0P (a:=a2) hr2.ZdT hr2.slots (.tmp 4)
   generalize a2.eval (.tmp 4)=v4 at this ⊢
   simp only [ev,setSlot] at this
   cases this with
   | lit _ _=>rfl
  ·cases b with
   | true=>
    have hx:=hb rfl
    subst hx
    have cA:∀lp,Z7y (Z49 E0 0) lp E0 f (ZLe t) ⟨setSlot (setSlot [.sl false ei.size [],Z17,.lsl 0 0 0 0,Z17,Z17,Z17,Z17,Z17] (some 3) (.sl false ei.size [])) (some 4) (.lit (.bool true)),[ZW true false e ei.size []]⟩ =
      some (.ret,⟨[.sl false ei.size [],Z17,.lsl 1 0 0 0,.sl false ei.size [],.lit (.bool true),Z17,Z17,Z17],[ZW true false e ei.size [],ZW true false e ei.size []]⟩):=by
     intro lp
     simp [ZLe,Z7y,ZIY,stepD,Zam,ZmD,opD,ZNA,t1,Env.size,t2,place,setSlot,List.range,List.range.loop]
    refine ZiG hE hP hcall hpure hlp _ _ .ret _ rfl (cA _) _ _ _ _ hr2 (fun a3 w3 σ3 hr3 he3=>?_)
    exact hfin _ (by rw [hres];rfl) a3 w3 σ3 hr3 (he1.trans he3)
   | false=>
    refine wp_skip ?_
    show (ZFs t).wp P _ a2 w1
    have cB:∀lp,Z7y (Z49 E0 0) lp E0 f (ZFs t) ⟨setSlot (setSlot [.sl false ei.size xs,Z17,.lsl 0 0 0 0,Z17,Z17,Z17,Z17,Z17] (some 3) (.sl false ei.size xs)) (some 4) (.lit (.bool false)),[ZW true false e ei.size []]⟩ =
      some (.ret,⟨[.sl false ei.size xs,Z17,.lsl 1 0 xs.length xs.length,.sl false ei.size xs,.lit (.bool false),.lsl 1 0 0 0,.sl false ei.size xs,.lsl 1 0 xs.length xs.length],[ZW true false e ei.size [],ZW true false e ei.size xs]⟩):=by
     intro lp
     have hzk:ei.zok=true:=by simp [TI.zok,hez,hzl,hzo]
     simp [ZFs,Z7y,ZIY,stepD,Zam,ZmD,opD,t1,t2,place,setSlot,List.range,List.range.loop,Z3a,hez,Z2b,hpos,hzl,hzo,ZnG,bump,ev,evs,Z84,Z7H,elemsOf,Z3K,Z1H,ZW,h1,h2,hzk]
    refine ZiG hE hP hcall hpure hlp _ _ .ret _ rfl (cB _) _ _ _ _ hr2 (fun a3 w3 σ3 hr3 he3=>?_)
    exact hfin _ (by rw [hres];rfl) a3 w3 σ3 hr3 (he1.trans he3)
theorem ZIJ (hmix:P.follows .mixedOrders=true) {f:FuncId} {fn:Func} {t tb e:TypeId} {i1 i2:Nat} {iz:Option V} {ei:TI} {z:V} (hfn:P.funcs[f]? = some fn) (hbody:fn.body=some (ZFH t tb)) (hnt:fn.ntmps=8) (hres:fn.results = #[.tmp 2])
  (hti:ZF6 P t=some ⟨.slice e,i1,i2,iz⟩) (htu:P.underlying t=some (.slice e)) (hei:ZF6 P e=some ei) (hez:ei.zero=some z) (hpos:0<ei.size) (hzl:z.cells.length=ei.size) (hzo:okV z=true)
  {xs:List V} (h1:xs.length*ei.bytes<=lim) (h2:xs.length<=maxLen):ZgL P E f [.sl false ei.size xs] (.sl false ei.size xs):=by
 intro fz w vs hcells hg hr
 refine(Zya hmix hfn hbody hnt hres hti htu hei hez hpos hzl hzo h1 h2 fz w vs hcells hr).mono ?_
 rintro e' w' ⟨u,σ',rfl,hI',hEx',hr'⟩
 have hfr:ZDF [ZW true false e ei.size [],ZW true false e ei.size xs] (.lsl 1 0 xs.length xs.length)=some (.sl false ei.size xs):=by simp [ZDF,frz,ZtK,Z1H,ZW]
 obtain⟨hI2,hEx2⟩:=hI'.freeze (ZMD (.lsl 1 0 xs.length xs.length))
 have hr2:=Zpk hI' hr' hfr (ZMD (.lsl 1 0 xs.length xs.length)) (fun i hi=>hi)
 have hn:=ZmI hI' hr' hfr
 refine⟨u,_,rfl,hI2.below,fun b c h=>(hEx2.fz b c (hEx'.fz b c h).1).1,fun b c h hlt=>hI2.old b c h hlt,hI2.cells,?_,hn⟩
 exact hr2.bare (fun b c h=>⟨h,rfl⟩) (Zcn.refl _) (by simp [ZG,hn])
theorem ZJI (hmix:P.follows .mixedOrders=true) {f:FuncId} {fn:Func} {t tb e:TypeId} {i1 i2:Nat} {iz:Option V} {ei:TI} {z:V} (hfn:P.funcs[f]? = some fn) (hbody:fn.body=some (ZFH t tb)) (hnt:fn.ntmps=8) (hres:fn.results = #[.tmp 2])
  (hti:ZF6 P t=some ⟨.slice e,i1,i2,iz⟩) (htu:P.underlying t=some (.slice e)) (hei:ZF6 P e=some ei) (hez:ei.zero=some z) (hpos:0<ei.size) (hzl:z.cells.length=ei.size) (hzo:okV z=true)
  {xs:List V} (h1:xs.length*ei.bytes<=lim) (h2:xs.length<=maxLen):Zu3 P E f [.sl false ei.size xs] e ei.size xs:=by
 intro fz w vs hcells hg hr
 have hfzv:∀x∈xs,fzV x=true:=by
  cases hr with
  | Z4u _=>simp
  | Z6h a _=>simp
  | sl b o c e' k1 k2 k3 k4 k5 k6 k7 _=>exact k2
 refine(Zya hmix hfn hbody hnt hres hti htu hei hez hpos hzl hzo h1 h2 fz w vs hcells hr).mono ?_
 rintro e' w' ⟨u,σ',rfl,hI',hEx',hr'⟩
 obtain⟨L,hL,hok⟩:=hI'.boxes 1 _ rfl rfl
 obtain⟨us,k1,k2,k3,k4⟩:=hok.Z8h
 have htot:L.tot=xs.length:=hok.tot
 have hesz:L.esz=ei.size:=hok.esz.symm
 have hu:u=L.v:=by
  cases hr' with
  | lsl q1 q2 q3 q4 _=>
   rw [hL] at q1
   cases q1
   obtain⟨_,a,n,c,k,r1,r2,r3,r4,_⟩:=q3 htot
   have hk0:k=0:=by omega
   subst hk0
   rw [r2,r1]
   rcases k4.2 with ⟨hv,hn⟩|⟨g,cap,cur,tg,hv,_⟩
   ·rw [r1] at hv
    cases hv
    have:xs.length=0:=hn
    simp [this]
   ·rw [r1] at hv
    cases hv
    simp [Addr.add,ZW]
 subst hu
 refine⟨L.v,us,σ'.fz,rfl,hI'.below,fun b c h=>(hEx'.fz b c h).1,fun b c h hlt=>hI'.old b c h hlt,hI'.cells,k1.bare (fun b c h=>⟨h,rfl⟩) (Zcn.refl _) (Z48 hfzv),hfzv,fun x hx=>by rw [k2 x hx,hesz],k3,by rw [<- hesz];exact k4,fun g c hg' hfz=>?_⟩
 have:=hI'.floor g c hfz 1 _ L rfl rfl hL hg'
 simp [ZW] at this
theorem Zoq (hmix:P.follows .mixedOrders=true) {f:FuncId} {fn:Func} {t tb e:TypeId} (hfn:P.funcs[f]? = some fn) (hbody:fn.body=some (ZFH t tb)) (hnt:fn.ntmps=8) (hres:fn.results = #[.tmp 2]) (hname:(fn.name == "runtime.NumGoroutine")=false)
  (hti:(ZF6 P t).map TI.ty=some (.slice e)) (htu:P.underlying t=some (.slice e)) {n by' : Nat} (hei:(ZF6 P e).map (fun i=>(i.size,i.bytes,i.zok))=some (n,by',true)) (hpos:0<n):Zfo P f n by' e:=by
 cases h1:ZF6 P t with
 | none=>rw [h1] at hti;cases hti
 | some ti=>
  cases h2:ZF6 P e with
  | none=>rw [h2] at hei;cases hei
  | some ei=>
   rw [h1] at hti
   rw [h2] at hei
   simp only [Option.map_some,Option.some.injEq,Prod.mk.injEq] at hti hei
   obtain⟨ty,i1,i2,iz⟩:=ti
   simp only at hti
   subst hti
   obtain⟨rfl,rfl,hz⟩:=hei
   unfold TI.zok at hz
   split at hz
   ·rename_i z hz0
    simp only [Bool.and_eq_true,beq_iff_eq] at hz
    exact⟨⟨fn,hfn,by rw [hbody];rfl,hname⟩,fun E xs h3 h4=>ZIJ hmix hfn hbody hnt hres h1 htu h2 hz0 hpos hz.2 hz.1 h3 h4,fun E xs h3 h4=>ZJI hmix hfn hbody hnt hres h1 htu h2 hz0 hpos hz.2 hz.1 h3 h4⟩
   ·cases hz
theorem ZkK {U:Z5V} {E0:Env} {f n by' e:Nat} (h:Zfo P f n by' e) {m:HMod U}
  (hm:∀(x:m.sin.X U) (y:U.Ty m.ky),m.fn x=some y->∃xs,Z02 U (m.sin.enc x).1=[.sl false n xs]/\toH U (m.sin.enc x).2=[]/\toV U (m.out y).1 = .lsl 0 0 xs.length xs.length/\toH U (m.out y).2=[ZW true false e n xs]/\xs.length*by' <= lim/\xs.length<=maxLen):Z4n P E0 f m:=by
 refine⟨h.entered,fun x y hx=>?_⟩
 obtain⟨xs,h1,h2,h3,h4,h5,h6⟩:=hm x y hx
 rw [h1,h2,h3,h4]
 intro B w0 σ w vs hI hg hr
 have:=Zyn (P:=P) (E:=E0) (f:=f) (e:=e) (sz:=n) (xs:=xs) (as:=[.sl false n xs]) [] (by simpa [Z0R] using h.own E0 xs h5 h6) rfl hI hg hr
 exact this
end
open Go.ChangeShapes Go.WideShapes Go.ChangeAt
theorem Zxu {σ:Sg} {w:World} {ik:IntKind}:∀(ks:List Int),(∀k∈ks,(Lit.int ik k).wf=true)->Zx σ w (ks.map fun n=>V.lit (.int ik n)) (ks.map fun n=>Value.int ik n)
 | [],_=>.nil
 | k::ks,h=>.lit (by simp [leaf,h k (by simp)]) (Zxu ks fun j hj=>h j (by simp [hj]))
theorem ZMz {P:Program} {W:World} {name:String} {g tA e:Nat} {ik:IntKind} {ks:List Int} (hg:P.globalNamed name=some g) (ht:(P.globals[g]?).map (·.type)=some tA) (hA:P.underlying tA=some (.array ks.length e)) (he:P.underlying e=some (.int ik)) (hc:P.cellsOf e=1) (hcA:P.cellsOf tA=ks.length)
  (hm:laidMetH P [(name,.agg (ks.map fun n=>.lit (.int ik n)))] W):Zx (bare (Zo9 W)) W [.ept ks.length [.agg (ks.map fun n=>V.lit (.int ik n))] 0 0] [.pointer (some ⟨g,0,none⟩)]:=by
 rw [MakeChecks.laidMetH_plain _ _ _ (by rfl)] at hm
 obtain⟨ps,⟨g0,t0,cs0,f0,p0,q0,hg0,ht0,hv0,hd0,_,_⟩,_,_⟩:=hm
 obtain rfl:=Option.some.inj (hg.symm.trans hg0)
 obtain rfl:=Option.some.inj (ht.symm.trans ht0)
 obtain⟨xs,m1,rfl,hx,hlen,hn,hel⟩:=DataW.trod_array hA hd0
 simp only [Prod.mk.injEq,DataW.agg.injEq] at hx
 rw [hcA] at hlen
 have hcell:∀i,i<ks.length->∃k,ks[i]? = some k/\cs0[i]? = some (.int ik k)/\(Lit.int ik k).wf=true:=by
  intro i hi
  have h1:=hel i hi
  rw [hc,Nat.mul_one] at h1
  have hxi:i<xs.length:=by omega
  rw [List.getElem?_eq_getElem hxi] at h1
  obtain⟨k,e1,e2,e3⟩:=DataW.trod_int he h1
  refine⟨k,?_,?_,e3⟩
  ·have h2:=congrArg (·[i]?) hx.1
   simp only [List.getElem?_map,List.getElem?_eq_getElem hxi,List.getElem?_eq_getElem hi,Option.map_some,e2,Option.some.injEq,DataW.lit.injEq,Lit.int.injEq,true_and] at h2
   rw [List.getElem?_eq_getElem hi,h2]
  ·have h3:i<cs0.toList.length:=by omega
   rw [List.drop_eq_getElem_cons h3] at e1
   simp only [List.take_succ_cons,List.take_zero,List.cons.injEq,and_true] at e1
   rw [<- Array.getElem?_toList,List.getElem?_eq_getElem h3,e1]
 have hwf:∀k∈ks,(Lit.int ik k).wf=true:=by
  intro k hk
  obtain⟨i,hi,rfl⟩:=List.mem_iff_getElem.1 hk
  obtain⟨k',h1,_,h3⟩:=hcell i hi
  rw [List.getElem?_eq_getElem hi] at h1
  obtain rfl:=Option.some.inj h1
  exact h3
 have hone:∀u∈ks.map (fun n=>Value.int ik n),u.oneCell' = true:=by
  intro u hu
  obtain⟨k,_,rfl⟩:=List.mem_map.1 hu
  rfl
 have hr:=Zx.agg (Zxu (σ:=bare (Zo9 W)) (w:=W) ks hwf) hone (xs:=[]) (vs:=[]) .nil
 have hfl:flat [Value.agg (ks.map fun n=>Value.int ik n).toArray]=ks.map fun n=>Value.int ik n:=by simp [flat,Value.cells]
 have:=Zx.ept (σ:=bare (Zo9 W)) (w:=W) (es:=[.agg (ks.map fun n=>V.lit (.int ik n))]) g 0 ks.length 0 0 hr ?_ ?_ ?_ ?_ (xs:=[]) (vs:=[]) .nil
 ·simpa using this
 ·intro x hx
  obtain rfl:x=V.agg (ks.map fun n=>V.lit (.int ik n)):=by simpa using hx
  simp only [fzV,okV,Z03,Bool.true_and]
  rw [Z1Z]
  intro y hy
  obtain⟨k,_,rfl⟩:=List.mem_map.1 hy
  rfl
 ·intro u hu
  obtain rfl:u=Value.agg (ks.map fun n=>Value.int ik n).toArray:=by simpa using hu
  simp [Value.cells]
 ·rw [hfl];exact hone
 ·intro j u hj
  rw [hfl,List.getElem?_map] at hj
  cases hk:ks[j]? with
  | none=>simp [hk] at hj
  | some k=>
   simp only [hk,Option.map_some,Option.some.injEq] at hj
   subst hj
   obtain⟨k',h1,h2,_⟩:=hcell j (List.getElem?_eq_some_iff.1 hk).1
   obtain rfl:=Option.some.inj (hk.symm.trans h1)
   have:=(World.var?_cell hg hv0 j).trans h2
   rw [Nat.zero_add]
   exact⟨⟨_,this⟩,this⟩
end Go.Proofs.YtjodhcdmhobmoaaGreatDoor.Le
