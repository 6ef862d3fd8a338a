/- A part of it. -/
import Derived.Test.YtddbklgndkpipaaGreatDoorL2
import Derived.Orders
import Derived.LoopN
import Derived.Scope
set_option linter.unusedVariables false
set_option linter.unusedSimpArgs false
namespace Go.Proofs.YtddbklgndkpipaaGreatDoor.Le
open Go.RowKit (Below)
structure Ez (E:Env) (B:Nat) (w0:Start) (σ:Sg) (st:St) (a:Act) (w:World):Prop where
 inv:Inv B w0 σ st.H w
 EP:Dk E σ w
 slots:AU σ w st.s a.tmps.toList
 calm:a.defers=[]
theorem Z4E {σ w s x u} {a:Act} (h:AU σ w s a.tmps.toList) (hx:AU σ w [x] [u]) (d:Option Tmp):AU σ w (setSlot s d x) (a.put d u).tmps.toList:=by
 cases d with
 | none=>exact h
 | some d=>
  simp only [setSlot,Act.put,Array.toList_setIfInBounds]
  exact h.set d hx
theorem Z5L {a:Act} (h:a.defers=[]) (d:Option Tmp) (u:Value):(a.put d u).defers=[]:=by
 cases d<;>exact h
theorem Zli {σ w s} {a:Act} {ops:Array Oper} (h:AU σ w s a.tmps.toList) {j d:Nat} {want r:Bool} (hd:(ops[j]?).bind (·.dst)=some d) (hg:JS (s.getD d .und) want=some r) :
  (yielded ops a.tmps j==some want)=r:=by
 unfold yielded
 rw [hd]
 have hcase:∀x,s.getD d .und=x->x≠.und->∃v,a.tmps[d]? = some v/\AU σ w [x] [v]:=by
  intro x hx hne
  cases hs:s[d]? with
  | none=>simp_all
  | some y=>
   simp [List.getD,hs] at hx
   subst hx
   obtain⟨v,hv,hr⟩:=h.get hs
   simp_all
 unfold JS at hg
 split at hg
 ·rename_i b hb
  obtain⟨v,hv,hr⟩:=hcase _ hb (by simp)
  simp only [Option.some.injEq] at hg
  have:v = .bool b:=by cases hr;rfl
  simp_all
 ·rename_i hb
  obtain⟨v,hv,hr⟩:=hcase _ hb (by simp)
  simp only [Option.some.injEq] at hg
  have:v=undef:=by cases hr;rfl
  subst this
  simp only [Option.bind_some,hv]
  rw [<- hg]
  rfl
 ·cases hg
section
variable {E:Env} {B:Nat} {w0:Start} {σ:Sg} {P:Program} {call:Df} {ops:Array Oper} {st st' : St} {a:Act} {w:World}
theorem Z4F (hE:Ci E) (hP:E.P=P) (hcall:Jo P E B w0 call) {k i:Nat} (hk:FD st.H k=true) (h:Ez E B w0 σ st a w) (hs:L6 call E ops k i st=some st')
  {K:Act->World->Prop} {Q:Exit->Act->World->Prop} (hn:∀a' w' σ',Ez E B w0 σ' st' a' w' -> Ext σ w σ' w' -> K a' w'):wpOp P ops Q i K a w:=by
 unfold L6 at hs
 unfold wpOp
 cases ho:ops[i]? with
 | none=>
  simp only [ho,Option.some.injEq] at hs ⊢
  subst hs
  exact hn a w σ h (Ext.refl σ w)
 | some o=>
  simp only [ho] at hs ⊢
  have hop:∀x H',BH call E k st.H st.s o=some (x,H')->st' = ⟨setSlot st.s o.dst x,H'⟩->o.wp P a w K Q:=by
   intro x H' hx hst
   refine Zle hE hP hcall h.inv h.EP hk h.slots o x H' hx K Q (fun u w' σ' h1 h2 h3=>hn _ w' σ' ⟨?_,h.EP.ext h2,?_,Z5L h.calm _ _⟩ h2)
   ·rw [hst];exact h1
   ·rw [hst];exact Z4E (h.slots.ext h2) h3 o.dst
  have hskip:st' = ⟨setSlot st.s o.dst Hf,st.H⟩->K (a.put o.dst undef) w:=by
   intro hst
   refine hn _ w σ ⟨by rw [hst];exact h.inv,h.EP,?_,Z5L h.calm _ _⟩ (Ext.refl σ w)
   rw [hst]
   exact Z4E h.slots (.no .nil) o.dst
  cases hact:ES call E ops k o st with
  | none=>simp [hact] at hs
  | some r=>
   obtain⟨v,H'⟩:=r
   simp only [hact,Option.some.injEq] at hs
   unfold ES at hact
   unfold Region.wanted
   cases hgd:o.guard with
   | none=>
    simp_all
   | some jw=>
    obtain⟨j,want⟩:=jw
    simp only [hgd] at hact ⊢
    cases hd:(ops[j]?).bind (·.dst) with
    | none=>simp [hd] at hact
    | some d=>
     simp only [hd] at hact
     cases hg:JS (st.s.getD d .und) want with
     | none=>simp_all
     | some r=>
      rw [hg] at hact
      simp only [Zli h.slots hd hg]
      grind
theorem Z6H (hE:Ci E) (hP:E.P=P) (hcall:Jo P E B w0 call):∀(is:List Nat) (st:St) (σ:Sg) (a:Act) (w:World),Ez E B w0 σ st a w->O4 call E ops is st=some st' ->
  ∀{Q:Exit->Act->World->Prop},(∀a' w' σ',Ez E B w0 σ' st' a' w' -> Ext σ w σ' w' -> Q .normal a' w')->wpOps P ops Q is a w:=by
 intro is
 induction is with
 | nil=>
  intro st σ a w h hs Q hn
  simp only [O4,Option.some.injEq] at hs
  subst hs
  exact hn a w σ h (Ext.refl σ w)
 | cons i rest ih=>
  intro st σ a w h hs Q hn
  simp only [O4] at hs
  cases h1:stepD call E ops i st with
  | none=>simp [h1] at hs
  | some st1=>
   simp only [h1] at hs
   rw [wpOps_cons]
   exact Z4F hE hP hcall (Vh st.H) h h1 (fun a1 w1 σ1 hr1 he1=>ih st1 σ1 a1 w1 hr1 hs (fun a' w' σ' hr he=>hn a' w' σ' hr (he1.trans he)))
end
end Go.Proofs.YtddbklgndkpipaaGreatDoor.Le
namespace Go.Proofs.YtddbklgndkpipaaGreatDoor.Le
open Go.RowKit (Below)
theorem getD_set_ne' {s:List V} {d t:Nat} (h:d≠t) (v u:V):(s.set d v).getD t u=s.getD t u:=by
 simp_all
theorem dP {E:Env} {s:List V} {d:Option Tmp} {v:V} (x:Operand) (h:∀d',d=some d' -> x≠.tmp d'):ev E (setSlot s d v) x=ev E s x:=by
 cases d with
 | none=>rfl
 | some d=>
  cases x with
  | tmp t=>exact getD_set_ne' (fun e=>h d rfl (by rw [e])) v .und
  | _=>rfl
theorem kU {E:Env} {s s' : List V} (xs:List Operand) (h:∀x∈xs,ev E s x=ev E s' x):xs.map (ev E s)=xs.map (ev E s'):=List.map_congr_left h
theorem Z26 {E:Env} {s s' : List V} (ps:Array (Nat×Operand)) (h:∀x∈(ps.toList.map (·.2)).toArray,ev E s x=ev E s' x) :
  (ps.toList.map fun(i,x)=>(i,ev E s x))=(ps.toList.map fun(i,x)=>(i,ev E s' x)):=List.map_congr_left fun p hp=>by
 grind
theorem ZiO {call:Df} {E:Env} {k:Nat} {H:Heap} {s s' : List V} {o:Oper} (h:∀x∈o.op.operands,ev E s x=ev E s' x):BH call E k H s o=BH call E k H s' o:=by
 obtain⟨dst,op,type,pos,after,guard⟩:=o
 simp only at h
 cases op<;>simp only [Op.operands] at h<;>simp only [BH]
 case assign x=>
  have hx:ev E s x=ev E s' x:=h x (by simp)
  split<;>simp_all
 case build t ps=>rw [Z26 ps h]
 case buildSlice t n ps=>rw [Z26 ps h]
 case makeFunc fn first captured=>
  have h1:evs E s first=evs E s' first:=kU _ fun x hx=>h x (by simp at hx;simp [hx])
  have h2:evs E s captured=evs E s' captured:=kU _ fun x hx=>h x (by simp at hx;simp [hx])
  cases fn<;>simp only [h1,h2]
 case call c=>
  have h1:evs E s c.args=evs E s' c.args:=kU _ fun x hx=>h x (by simp at hx;simp [Call.operands,hx])
  rw [h1]
  cases hc:c.callee with
  | value f=>have hf:ev E s f=ev E s' f:=h f (by simp [Call.operands,hc]);simp only [hf]
  | builtin b=>cases b<;>rfl
  | invoke r n=>rfl
 case slice t x lo hi mx=>
  have hx:ev E s x=ev E s' x:=h x (by simp)
  have hlo:lo.map (ev E s)=lo.map (ev E s'):=by cases lo<;>simp_all
  have hhi:hi.map (ev E s)=hi.map (ev E s'):=by cases hi<;>simp_all
  have hmx:mx.map (ev E s)=mx.map (ev E s'):=by cases mx<;>simp_all
  rw [hx,hlo,hhi,hmx]
 all_goals simp_all
theorem aT {ops:Array Oper} {o:Oper} {d:Tmp} (h:d∉o.looksAt ops):∀x∈o.op.operands,x≠.tmp d:=fun x hx e=>h (by
 subst e
 exact List.mem_append_left _ (List.mem_filterMap.2 ⟨.tmp d,by simpa using hx,rfl⟩))
theorem Z6v {call:Df} {E:Env} {k:Nat} {H:Heap} {s:List V} {o:Oper} {ops:Array Oper} {d:Option Tmp} {v:V} (h:∀d',d=some d' -> d' ∉o.looksAt ops) :
  BH call E k H (setSlot s d v) o=BH call E k H s o:=
 ZiO fun x hx=>dP x fun d' hd=>aT (h d' hd) x hx
theorem Yz {E:Env} {s:List V} {o:Oper} {ops:Array Oper} {d:Option Tmp} {v:V} (h:∀d',d=some d' -> d' ∉o.looksAt ops):Di E (setSlot s d v) o=Di E s o:=by
 unfold Di
 rw [<- List.flatMap_map,<- List.flatMap_map (f:=ev E s)]
 congr 1
 exact List.map_congr_left fun x hx=>dP x fun d' hd=>aT (h d' hd) x (by simpa using hx)
theorem Z2J {E:Env} {s:List V} {o:Oper} {ops:Array Oper} {d:Option Tmp} {v:V} (h:∀d',d=some d' -> d' ∉o.looksAt ops):quietAt E (setSlot s d v) o=quietAt E s o:=by
 unfold quietAt
 cases hop:o.op with
 | call c=>
  simp only
  cases hcal:c.callee with
  | value f=>
   cases f with
   | tmp t=>
    have hx:Operand.tmp t∈o.op.operands:=by simp [hop,Op.operands,Call.operands,hcal]
    have:=dP (E:=E) (s:=s) (v:=v) (.tmp t) fun d' hd=>aT (h d' hd) _ hx
    simp only [show (setSlot s d v).getD t .und=s.getD t .und from this]
   | _=>rfl
  | _=>rfl
 | _=>rfl
theorem Z6a {call:Df} {E:Env} {k:Nat} {H:Heap} {s:List V} {o:Oper} {ops:Array Oper} {d:Option Tmp} {v:V} (h:∀d',d=some d' -> d' ∉o.looksAt ops) :
  ES call E ops k o ⟨setSlot s d v,H⟩=ES call E ops k o ⟨s,H⟩:=by
 unfold ES
 cases hg:o.guard with
 | none=>exact Z6v h
 | some jw=>
  obtain⟨j,want⟩:=jw
  simp only
  cases hd:(ops[j]?).bind (·.dst) with
  | none=>rfl
  | some g=>
   have hne:∀d',d=some d' -> d' ≠g:=fun d' hd' e=>h d' hd' (by
    subst e
    exact List.mem_append_right _ (by simp [hg,hd]))
   have:(setSlot s d v).getD g .und=s.getD g .und:=by
    cases d with
    | none=>rfl
    | some d=>exact getD_set_ne' (hne d rfl) v .und
   simp only [this]
   rw [Z6v h]
def Box.low (b:Box):Box:={ b with floor:=0 }
def DU (R:List Nat) (H H' : Heap):Prop:=∀id∈R,(H[id]?).map Box.low=(H'[id]?).map Box.low
theorem Nl {H H' : Heap} {id tot:Nat} {b:Box} (h:(H[id]?).map Box.low=(H'[id]?).map Box.low) (hb:DY H id tot=some b):∃b',DY H' id tot=some b' /\ b'.low=b.low:=by
 unfold DY at *
 cases h1:H[id]? with
 | none=>simp [h1] at hb
 | some b0=>
  simp only [h1] at hb h
  cases h2:H'[id]? with
  | none=>simp [h2] at h
  | some b1=>
   simp only [h2,Option.map_some,Option.some.injEq] at h
   split at hb
   ·rename_i hc
    simp only [Option.some.injEq] at hb
    subst hb
    refine⟨b1,?_,h.symm⟩
    have e1:b1.live=b0.live:=(congrArg Box.live h).symm
    have e2:b1.xs=b0.xs:=(congrArg Box.xs h).symm
    simp only [e1,e2,hc,if_true]
   ·cases hb
theorem QW {b b' : Box} (h:b'.low=b.low):b'.row=b.row/\b'.EK=b.EK/\b'.elem=b.elem/\b'.Au=b.Au/\b'.xs=b.xs:=
 ⟨congrArg (·.row) h,congrArg (·.EK) h,congrArg (·.elem) h,congrArg (·.Au) h,congrArg (·.xs) h⟩
theorem QM {H H' : Heap} {id tot:Nat} (h:(H[id]?).map Box.low=(H'[id]?).map Box.low) (hb:DY H id tot=none):DY H' id tot=none:=by
 cases hb' : DY H' id tot with
 | none=>rfl
 | some b=>
  obtain⟨b',h1,_⟩:=Nl h.symm hb'
  simp_all
section
variable {H H' : Heap}
theorem rQ {x:V} (h:DU (Dv x) H H'):Fj H' x=Fj H x:=by
 unfold Fj
 split<;>try rfl
 rename_i id off len tot
 cases hb:DY H id tot with
 | none=>rw [QM (h id (by simp [Dv])) hb]
 | some b=>
  obtain⟨b',h1,h2⟩:=Nl (h id (by simp [Dv])) hb
  obtain⟨e1,e2,e3,e4,e5⟩:=QW h2
  simp_all
theorem Zkw {xs:List V} (h:DU (xs.flatMap Dv) H H'):JI H' xs=JI H xs:=by
 induction xs with
 | nil=>rfl
 | cons x xs ih=>
  simp only [JI]
  rw [rQ (fun i hi=>h i (by simp [hi])),ih (fun i hi=>h i (by rw [List.flatMap_cons];exact List.mem_append_right _ hi))]
theorem Z6R {x:V} (h:DU (DI x) H H'):Hz H' x=Hz H x:=by
 unfold Hz
 split
 ·rw [Zkw (by simpa [DI] using h)]
 ·rename_i hne
  refine rQ (fun i hi=>h i ?_)
  cases x with
  | fn f a b=>simp [Dv] at hi
  | agg cs=>simp_all
  | _=>exact hi
theorem oN {xs:List V} (h:DU (xs.flatMap DI) H H'):FC H' xs=FC H xs:=by
 induction xs with
 | nil=>rfl
 | cons x xs ih=>
  simp only [FC]
  rw [Z6R (fun i hi=>h i (by simp [hi])),ih (fun i hi=>h i (by rw [List.flatMap_cons];exact List.mem_append_right _ hi))]
theorem pO {x:V} (h:DU (DI x) H H'):lenOf H' x=lenOf H x:=by
 unfold lenOf
 split<;>try rfl
 rename_i id off len tot
 cases hb:DY H id tot with
 | none=>rw [QM (h id (by simp [DI,Dv])) hb]
 | some b=>
  obtain⟨b',h1,h2⟩:=Nl (h id (by simp [DI,Dv])) hb
  simp only [h1]
theorem YX {x:V} (h:DU (DI x) H H'):elemsOf H' x=elemsOf H x:=by
 unfold elemsOf
 split<;>try rfl
 rename_i id off len tot
 cases hb:DY H id tot with
 | none=>rw [QM (h id (by simp [DI,Dv])) hb]
 | some b=>
  obtain⟨b',h1,h2⟩:=Nl (h id (by simp [DI,Dv])) hb
  obtain⟨e1,e2,e3,e4,e5⟩:=QW h2
  simp only [h1,e1,e5]
theorem aN {x:V} {n:Nat} (h:DU (DI x) H H'):EZ H' x n=EZ H x n:=by
 unfold EZ
 split<;>try rfl
 rename_i id off len tot
 cases hb:DY H id tot with
 | none=>rw [QM (h id (by simp [DI,Dv])) hb]
 | some b=>
  obtain⟨b',h1,h2⟩:=Nl (h id (by simp [DI,Dv])) hb
  obtain⟨e1,e2,e3,e4,e5⟩:=QW h2
  simp only [h1,e4]
theorem Z4v {E:Env} {t:TypeId} {a:V} (h:DU (DI a) H H'):Ko E H' t a=Ko E H t a:=by
 unfold Ko
 split
 ·rfl
 ·split<;>try rfl
  rename_i id j off tot
  cases hb:DY H id tot with
  | none=>rw [QM (h id (by simp [DI,Dv])) hb]
  | some b=>
   obtain⟨b',h1,h2⟩:=Nl (h id (by simp [DI,Dv])) hb
   obtain⟨e1,e2,e3,e4,e5⟩:=QW h2
   simp only [h1,e5]
theorem Z9S {E:Env} {t:TypeId} {x i:V} (h:DU (DI x) H H'):Nh E H' t x i=Nh E H t x i:=by
 unfold Nh
 split<;>try rfl
 split<;>try rfl
 rename_i id off len tot hty
 cases hb:DY H id tot with
 | none=>rw [QM (h id (by simp [DI,Dv])) hb]
 | some b=>
  obtain⟨b',h1,h2⟩:=Nl (h id (by simp [DI,Dv])) hb
  obtain⟨e1,e2,e3,e4,e5⟩:=QW h2
  simp only [h1,e4]
theorem Z0k {E:Env} {t:TypeId} {x:V} (h:DU (DI x) H H'):Nr E H' t x=Nr E H t x:=by
 unfold Nr
 split<;>try rfl
 split<;>try rfl
 split<;>try rfl
 rw [aN h]
end
def eff (ids:List Nat) (nb:Option Box) (k:Nat) (H:Heap):Heap:=
 match nb with
 | none=>bump H ids
 | some b=>place (bump H ids) k b
def dG (E:Env) (call:Df):Prop:=
 ∀f,Pg E f=true->∀args H v H1,call f args H=some (v,H1) ->
  H1=bump H (args.flatMap Dh)/\∀H',DU (args.flatMap DI) H H' -> call f args H' = some (v,bump H' (args.flatMap Dh))
def cO (E:Env) (call:Df):Prop:=
 ∀f,PY E f=true->∀args H v H1,call f args H=some (v,H1) ->
  ∃ids nbs,(∀i∈ids,i∈args.flatMap DI)/\H1=bump H ids++nbs/\∀H',H'.length=H.length->DU (args.flatMap DI) H H' -> call f args H' = some (v,bump H' ids++nbs)
def dX (E:Env) (call:Df):Prop:=
 ∀f,Pg E f=false->PY E f=false->NS E f=true->∀args H v H1 n b0 b,call f args H=some (v,H1)->H[n]? = some b0->b0.row=false->b.row=false ->
  H1[n]? = some b0/\call f args (H.set n b)=some (v,H1.set n b)
structure OA (E:Env) (call:Df):Prop where
 pure:dG E call
 free:cO E call
 row:dX E call
theorem Zkf {E:Env} {f:FuncId} (h:PY E f=true):NS E f=true:=by
 unfold PY at h
 unfold NS
 simp only [Bool.and_eq_true] at h ⊢
 refine⟨h.1,?_⟩
 cases hh:E.hm f [] with
 | none=>rw [hh] at h;exact h.2
 | some hs=>
  rw [hh] at h
  have:hs.fb=[]:=by simpa using h.2
  simp [this]
theorem Z5Z {x:V} {i:Nat} (h:i∈Ea x):i∈Dv x:=by
 cases x<;>simp_all [Ea,Dv]
theorem ZjF {x:V} {i:Nat} (h:i∈Dh x):i∈DI x:=by
 cases x with
 | agg cs=>
  simp only [Dh,DI,List.mem_flatMap] at *
  obtain⟨c,hc,hi⟩:=h
  exact⟨c,hc,Z5Z hi⟩
 | _=>simp_all [Dh,DI,Ea,Dv]
theorem nS {xs:List V} {i:Nat} (h:i∈xs.flatMap Dh):i∈xs.flatMap DI:=by
 simp only [List.mem_flatMap] at *
 obtain⟨c,hc,hi⟩:=h
 exact⟨c,hc,ZjF hi⟩
theorem sG {y:Option V} {H H1:Heap} {v:V} (h:y.map (·,H)=some (v,H1)):y=some v/\H1=H:=by
 cases y with
 | none=>cases h
 | some x=>simp_all
def Eff (call:Df) (E:Env) (k:Nat) (H:Heap) (s:List V) (o:Oper) (v:V) (H1:Heap):Prop:=
 ∃ids nb,(∀i∈ids,i∈Di E s o)/\(nb.isSome=true->Bd E o = .a)/\H1=eff ids nb k H /\
  ∀H' k',(Bd E o = .a->k' = k)->DU (Di E s o) H H' -> BH call E k' H' s o=some (v,eff ids nb k' H')
theorem aQ {call:Df} {E:Env} {k:Nat} {H H1:Heap} {s:List V} {o:Oper} {v:V} {y:Heap->Option V} (he:∀H k,BH call E k H s o=(y H).map (·,H))
  (h:BH call E k H s o=some (v,H1)) (hy:∀H',DU (Di E s o) H H' -> y H' = y H):Eff call E k H s o v H1:=by
 rw [he] at h
 obtain⟨h1,h2⟩:=sG h
 exact⟨[],none,by simp,by simp,h2,fun H' k' _ hs=>by rw [he,hy H' hs,h1];rfl⟩
theorem S9 {E:Env} {s:List V} {o:Oper} {H H' : Heap} (h:DU (Di E s o) H H') {x:Operand} (hx:x∈o.op.operands):DU (DI (ev E s x)) H H' :=fun i hi=>
 h i (List.mem_flatMap.2 ⟨x,by simpa using hx,hi⟩)
theorem vH {call:Df} {E:Env} {k:Nat} {H H1:Heap} {s:List V} {o:Oper} {v:V} (hc:Bd E o = .s) (h:BH call E k H s o=some (v,H1)) :
  H1=H/\∀H' k',BH call E k' H' s o=some (v,H'):=by
 have key:∀y:Option V,(∀H k,BH call E k H s o=y.map (·,H))->H1=H/\∀H' k',BH call E k' H' s o=some (v,H'):=by
  intro y he
  rw [he] at h
  obtain⟨h1,h2⟩:=sG h
  exact⟨h2,fun H' k' =>by rw [he,h1];rfl⟩
 obtain⟨dst,op,type,pos,after,guard⟩:=o
 cases op<;>simp only [Bd] at hc<;>try (cases hc;done)
 case convert=>grind
 case move x=>exact key (some (ev E s x)) (fun H k=>rfl)
 case pick c x y=>
  refine key (match ev E s c with | .lit (.bool t)=>some (if t then ev E s x else ev E s y)|_=>none) (fun H k=>?_)
  simp only [BH]
  split<;>simp_all
 case build t ps=>exact key (Su E t (ps.toList.map fun(i,x)=>(i,ev E s x))) (fun H k=>rfl)
 case binOp op t x y z=>exact key (Kv E op t (ev E s x) (ev E s y)) (fun H k=>rfl)
 case unOp op t x=>exact key (XK op (ev E s x)) (fun H k=>rfl)
 case sliceToArrayPointer t x=>exact key (TP E t (ev E s x)) (fun H k=>rfl)
 case field t x f=>exact key (Sz E t (ev E s x) f) (fun H k=>rfl)
 case fieldAddr t x f=>exact key (Rq E t (ev E s x) f) (fun H k=>rfl)
 case index t x i=>exact key (Sr E t (ev E s x) (ev E s i)) (fun H k=>rfl)
 case nilCheck x=>
  refine key (match Qa (ev E s x) with|some false=>some (ev E s x)|_=>none) (fun H k=>?_)
  simp only [BH]
  split<;>simp_all
 case lookup t m x ok=>exact key (TL E t ok (ev E s m) (ev E s x)) (fun H k=>rfl)
 case extract x i=>
  refine key (match ev E s x with | .BG vs=>vs[i]? | _=>none) (fun H k=>?_)
  simp only [BH]
  split<;>simp_all
 case makeFunc fn first caps=>
  cases fn with
  | func f=>exact key (some (.fn f (evs E s first) (evs E s caps))) (fun H k=>rfl)
  | _=>simp [BH] at h
 case assign x=>
  by_cases hx:x = .const (.slice none 0 0)
  ·subst hx;cases hc
  ·refine key (some (ev E s x)) (fun H k=>?_)
   unfold BH
   split<;>simp_all
 case call c=>
  split at hc
  ·cases hc
  ·rename_i hcal
   exact key (OO false (evs E s c.args)) (fun H k=>by simp only [BH,hcal];rfl)
  ·rename_i hcal
   exact key (OO true (evs E s c.args)) (fun H k=>by simp only [BH,hcal];rfl)
  ·grind
  ·grind
  ·cases hc
theorem Zg7 {E:Env} {H H' : Heap} {src dst:TypeId} {x r:V} (h:IX E H src dst x=some (r,H')):H' = H:=by
 unfold IX at h
 grind
theorem Z1K {E:Env} {H H' : Heap} {t:TypeId} {x r:V} {lo hi:Option V} (h:JC E H t x lo hi none=some (r,H')):H' = H:=by
 unfold JC at h
 grind
theorem sF {E:Env} {s:List V} {o:Oper} {c:Call} (hop:o.op = .call c) {H H' : Heap} (h:DU (Di E s o) H H'):DU ((evs E s c.args).flatMap DI) H H' :=by
 intro i hi
 simp only [evs,List.mem_flatMap,List.mem_map] at hi
 obtain⟨v,⟨x,hx,rfl⟩,hi⟩:=hi
 refine h i (List.mem_flatMap.2 ⟨x,?_,hi⟩)
 simp at hx
 simp [hop,Op.operands,Call.operands,hx]
theorem pX {E:Env} {s:List V} {o:Oper} {c:Call} (hop:o.op = .call c) {i:Nat} (hi:i∈(evs E s c.args).flatMap DI):i∈Di E s o:=by
 simp only [evs,List.mem_flatMap,List.mem_map] at hi
 obtain⟨v,⟨x,hx,rfl⟩,hi⟩:=hi
 refine List.mem_flatMap.2 ⟨x,?_,hi⟩
 simp at hx
 simp [hop,Op.operands,Call.operands,hx]
theorem Zio {E:Env} {s:List V} {o:Oper} {t:TypeId} {n:Nat} {ps:Array (Nat×Operand)} (hop:o.op = .buildSlice t n ps) {i:Nat}
  (hi:i∈((ps.toList.map fun(i,x)=>(i,ev E s x)).map (·.2)).flatMap DI):i∈Di E s o:=by
 simp only [List.map_map,List.mem_flatMap,List.mem_map] at hi
 obtain⟨v,⟨p,hp,rfl⟩,hi⟩:=hi
 refine List.mem_flatMap.2 ⟨p.2,?_,hi⟩
 simp only [hop,Op.operands]
 grind
theorem ZmV {H H' : Heap} {id:Nat} (h:(H[id]?).map Box.low=(H'[id]?).map Box.low):(H'.getD id default).Au=(H.getD id default).Au:=by
 simp only [List.getD]
 cases h1:H[id]? with
 | none=>grind
 | some b=>cases h2:H'[id]? with
  | none=>simp [h1,h2] at h
  | some b' =>
   simp only [h1,h2,Option.map_some,Option.some.injEq] at h
   show b'.Au=b.Au
   exact(congrArg Box.Au h).symm
theorem bump_nil (H:Heap):bump H []=H:=rfl
theorem Zg3 {E:Env} {H H1:Heap} {t:TypeId} {x v:V} {lo hi mx:Option V} (h:JC E H t x lo hi mx=some (v,H1)) :
  ∃ids,(∀i∈ids,i∈DI x)/\H1=bump H ids/\∀H',DU (DI x) H H' -> JC E H' t x lo hi mx=some (v,bump H' ids):=by
 cases mx with
 | none=>
  have:=Z1K h
  subst this
  refine⟨[],by simp,(bump_nil _).symm,fun H' hs=>?_⟩
  rw [bump_nil]
  have e:(JC E H' t x lo hi none).map (·.1)=(JC E H1 t x lo hi none).map (·.1):=by
   simp only [JC]
   rw [Z0k hs,pO hs]
   split
   ·split
    ·rfl
    ·split
     ·rfl
     grind
   ·rfl
  cases hc:JC E H' t x lo hi none with
  | none=>simp_all
  | some r=>
   obtain⟨r,H2⟩:=r
   have:=Z1K hc
   simp_all
 | some m=>
  simp only [JC] at h ⊢
  split at h
  ·rename_i hf
   split at h
   ·cases h
   ·rename_i n hn
    split at h
    ·cases h
    ·rename_i hh hbh
     split at h
     ·cases h
     ·rename_i l hbl
      have key:∀H',DU (DI x) H H' -> Nr E H' t x=true/\lenOf H' x=some n/\elemsOf H' x=elemsOf H x:=fun H' hs=>⟨by rw [Z0k hs];exact hf,by rw [pO hs];exact hn,YX hs⟩
      split at h
      ·rename_i k xs b e hk hxs
       split at h
       ·rename_i hkh
        simp only [Option.some.injEq,Prod.mk.injEq] at h
        obtain⟨rfl,rfl⟩:=h
        refine⟨[],by simp,(bump_nil _).symm,fun H' hs=>?_⟩
        obtain⟨q1,q2,q3⟩:=key H' hs
        rw [if_pos q1,q2,bump_nil]
        simp only [hbh,hbl,hk,q3,hxs,if_pos hkh]
       ·cases h
      ·rename_i k xs b e hk hxs
       split at h
       ·rename_i hkh
        simp only [Option.some.injEq,Prod.mk.injEq] at h
        obtain⟨rfl,rfl⟩:=h
        refine⟨[],by simp,(bump_nil _).symm,fun H' hs=>?_⟩
        obtain⟨q1,q2,q3⟩:=key H' hs
        rw [if_pos q1,q2,bump_nil]
        simp only [hbh,hbl,hk,q3,hxs,if_pos hkh]
       ·cases h
      ·rename_i k xs id off len tot hk hxs
       split at h
       ·rename_i hkh
        simp only [Option.some.injEq,Prod.mk.injEq] at h
        obtain⟨rfl,rfl⟩:=h
        refine⟨[id],by simp [DI,Dv],rfl,fun H' hs=>?_⟩
        obtain⟨q1,q2,q3⟩:=key H' hs
        rw [if_pos q1,q2]
        simp only [hbh,hbl,hk,q3,hxs,if_pos hkh,ZmV (hs id (by simp [DI,Dv]))]
       ·cases h
      ·cases h
  ·cases h
theorem ZhM {E:Env} {H H1:Heap} {n:Nat} {e:TypeId} {x v:V} {lo hi mx:Option V} (h:MW E H n e x lo hi mx=some (v,H1)) :
  ∃ids,(∀i∈ids,i∈DI x)/\H1=bump H ids/\∀H',DU (DI x) H H' -> MW E H' n e x lo hi mx=some (v,bump H' ids):=by
 unfold MW at h
 split at h
 ·rename_i id i off tot m' hm'
  cases hb:DY H id tot with
  | none=>simp [hb] at h
  | some b=>
   simp only [hb] at h
   split at h
   ·rename_i cs hrow hxs
    split at h
    ·rename_i hc
     simp only [Option.some.injEq,Prod.mk.injEq] at h
     obtain⟨rfl,rfl⟩:=h
     refine⟨[id],by simp [DI,Dv],rfl,fun H' hs=>?_⟩
     obtain⟨b',h1,h2⟩:=Nl (hs id (by simp [DI,Dv])) hb
     obtain⟨e1,e2,e3,e4,e5⟩:=QW h2
     unfold MW
     simp_all
    ·cases h
   ·cases h
 ·cases h
theorem Z6m {call:Df} {E:Env} (hpure:dG E call) {k:Nat} {H H1:Heap} {s:List V} {o:Oper} {v:V} (hc:Bd E o≠.w) (hcc:Bd E o≠.c) (hq:quietAt E s o=true) (h:BH call E k H s o=some (v,H1)) :
  Eff call E k H s o v H1:=by
 by_cases hs:Bd E o = .s
 ·obtain⟨h1,h2⟩:=vH hs h
  exact⟨[],none,by simp,by simp,h1,fun H' k' _ _=>h2 H' k'⟩
 have mk:∀(nb:Option Box),Bd E o = .a->(nb.isSome=true)->(∀H k,BH call E k H s o=nb.map fun b=>((if b.row then V.Be k 0 b.xs.length b.xs.length else V.ptr k 0 0 1),place H k b))->Eff call E k H s o v H1:=by
  intro nb hca hnb he
  cases nb with
  | none=>cases hnb
  | some b=>
   rw [he] at h
   simp only [Option.map_some,Option.some.injEq,Prod.mk.injEq] at h
   obtain⟨h1,h2⟩:=h
   refine⟨[],some b,by simp,fun _=>hca,h2.symm,fun H' k' hk _=>?_⟩
   rw [he,hk hca]
   simp only [Option.map_some,h1]
   rfl
 obtain⟨dst,op,type,pos,after,guard⟩:=o
 cases op<;>try (refine absurd ?_ hs;simp [Bd];done)
 case assign x=>
  by_cases hx:x = .const (.slice none 0 0)
  ·subst hx
   cases hti:E.ti type with
   | none=>simp [BH,hti] at h
   | some i=>
    obtain⟨ty,sz,by',z0⟩:=i
    cases ty with
    | slice e=>exact mk (some (DD true false e ((E.size e).getD 0) [])) rfl rfl (fun H k=>by simp only [BH,hti,Option.map_some];rfl)
    | _=>simp [BH,hti] at h
  ·refine absurd ?_ hs
   unfold Bd
   split<;>simp_all
 case alloc t=>
  cases hti:E.ti t with
  | none=>simp [BH,hti] at h
  | some i=>
   cases hz:i.zero with
   | none=>simp [BH,hti,hz] at h
   | some z=>
    by_cases hcond:z.cells.length=i.size/\okV z=true
    ·exact mk (some (DD false false t i.size [z])) rfl rfl (fun H k=>by simp only [BH,hti,hz,hcond,and_self,if_true,Option.map_some];rfl)
    ·simp [BH,hti,hz,hcond] at h
 case box t x=>
  cases hti:E.ti t with
  | none=>simp [BH,hti] at h
  | some i=>
   by_cases hcond:(ev E s x).cells.length=i.size/\okV (ev E s x)=true
   ·exact mk (some (DD false false t i.size [ev E s x])) rfl rfl (fun H k=>by simp only [BH,hti,hcond,and_self,if_true,Option.map_some];rfl)
   ·simp [BH,hti,hcond] at h
 case makeSlice t l c=>
  have hlen:∀(n:Int) (z:V),(List.replicate n.toNat z).length=n.toNat:=fun n z=>by simp
  cases hti:E.ti t with
  | none=>simp [BH,hti] at h
  | some i=>
   obtain⟨ty,sz,by',z0⟩:=i
   cases ty with
   | slice e=>
    cases hl:ev E s l with
    | lit lv=>
     cases lv with
     | int k1 n=>
      cases hcv:ev E s c with
      | lit cv=>
       cases cv with
       | int k2 m=>
        cases hei:E.ti e with
        | none=>simp [BH,hti,hl,hcv,hei] at h
        | some ei=>
         cases hz:ei.zero with
         | none=>simp [BH,hti,hl,hcv,hei,hz] at h
         | some z=>
          by_cases hcond:0<=n/\n<=m/\m.toNat*ei.bytes<=lim/\m<=maxLen/\0<ei.size/\z.cells.length=ei.size/\okV z=true
          ·refine mk (some (DD true false e ei.size (List.replicate n.toNat (EC (E.rows e) z)))) rfl rfl (fun H k=>?_)
           simp only [BH,hti,hl,hcv,hei,hz,Option.map_some]
           rw [if_pos hcond]
           simp [DD]
          ·simp only [BH,hti,hl,hcv,hei,hz] at h
           rw [if_neg hcond] at h
           cases h
       | _=>simp [BH,hti,hl,hcv] at h
      | _=>simp [BH,hti,hl,hcv] at h
     | _=>simp [BH,hti,hl] at h
    | _=>simp [BH,hti,hl] at h
   | _=>simp [BH,hti] at h
 case buildSlice t n ps=>
  have he:∀H k,BH call E k H s { dst:=dst,op:=.buildSlice t n ps,type:=type,pos:=pos,after:=after,guard:=guard }=Ot E k H t n (ps.toList.map fun(i,x)=>(i,ev E s x)):=fun H k=>rfl
  have hrefs:=fun i=>Zio (E:=E) (s:=s) (o:={ dst:=dst,op:=.buildSlice t n ps,type:=type,pos:=pos,after:=after,guard:=guard }) rfl (i:=i)
  rw [he] at h
  generalize (ps.toList.map fun(i,x)=>(i,ev E s x))=parts at he h hrefs
  unfold Ot at h
  split at h
  ·rename_i e sz by' z0 hti
   split at h
   ·rename_i ei hei
    split at h
    ·rename_i z vs hz hf
     split at h
     ·rename_i hcond
      split at h
      ·rename_i xs hfe
       simp only [Option.some.injEq,Prod.mk.injEq] at h
       obtain⟨h1,h2⟩:=h
       refine⟨(parts.map (fun p:Nat×V=>p.2)).flatMap Dh,some (DD true false e ei.size xs),fun i hi=>hrefs i (nS hi),fun _=>by simp [Bd],h2.symm,fun H' k' hk hs=>?_⟩
       have hfr:FC H' (parts.map (·.2))=some vs:=by rw [oN (fun i hi=>hs i (hrefs i hi))];exact hf
       have hkk:k' = k:=hk (by simp [Bd])
       rw [he,hkk,<- h1]
       simp only [Ot,hti,hei,hz,hfr,hfe]
       rw [if_pos hcond]
       rfl
      ·cases h
     ·cases h
    ·cases h
   ·cases h
  ·cases h
 case load t x=>exact aQ (y:=fun H=>Ko E H t (ev E s x)) (fun H k=>rfl) h (fun H' hs=>Z4v (S9 hs (by simp [Op.operands])))
 case indexAddr t x i=>exact aQ (y:=fun H=>Nh E H t (ev E s x) (ev E s i)) (fun H k=>rfl) h (fun H' hs=>Z9S (S9 hs (by simp [Op.operands])))
 case convert src dst2 x=>
  have hx:x∈(Op.convert src dst2 x).operands:=by simp [Op.operands]
  by_cases hb:(E.isStr src&&E.isBytes dst2)=true
  ·have hca:Bd E { dst:=dst,op:=.convert src dst2 x,type:=type,pos:=pos,after:=after,guard:=guard } = .a:=by simp only [Bd];rw [if_pos hb]
   have he:∀H k,BH call E k H s { dst:=dst,op:=.convert src dst2 x,type:=type,pos:=pos,after:=after,guard:=guard }=KZ E k H dst2 (ev E s x):=fun H k=>by simp only [BH];rw [if_pos hb]
   cases hev:ev E s x with
   | lit v=>
    cases v with
    | string st=>
     cases hti:E.ti dst2 with
     | none=>rw [he,hev] at h;simp [KZ,hti] at h
     | some i=>
      obtain⟨ty,sz,by',z0⟩:=i
      cases ty with
      | slice e=>
       by_cases h1:E.size e=some 1
       ·exact mk (some (DD true false e 1 (bytesV st))) hca rfl (fun H k=>by rw [he,hev];simp only [KZ,hti,h1,if_true,Option.map_some];rw [show (DD true false e 1 (bytesV st)).xs.length=st.size from by simp only [DD,bytesV,List.length_map];exact Array.length_toList];rfl)
       ·rw [he,hev] at h;simp [KZ,hti,h1] at h
      | _=>rw [he,hev] at h;simp [KZ,hti] at h
    | _=>rw [he,hev] at h;simp [KZ] at h
   | _=>rw [he,hev] at h;simp [KZ] at h
  have hcv0:∀H k,BH call E k H s { dst:=dst,op:=.convert src dst2 x,type:=type,pos:=pos,after:=after,guard:=guard }=IX E H src dst2 (ev E s x):=fun H k=>by simp only [BH];rw [if_neg hb]
  refine aQ (y:=fun H=>(IX E H src dst2 (ev E s x)).map (·.1)) (fun H k=>?_) h (fun H' hs=>?_)
  ·rw [hcv0]
   cases hcv:IX E H src dst2 (ev E s x) with
   | none=>rfl
   | some r=>
    obtain⟨r,H2⟩:=r
    have:=Zg7 hcv
    subst this
    rfl
  ·have h1:=S9 hs hx
   simp only [IX]
   generalize ev E s x=ex at h1 ⊢
   split
   ·grind
   ·split<;>rfl
   ·rw [aN h1,YX h1]
    grind
 case slice t x lo hi mx=>
  have hx:x∈(Op.slice t x lo hi mx).operands:=by simp [Op.operands]
  by_cases harr:∃n e sz by' z0,E.ti t=some ⟨.array n e,sz,by',z0⟩
  ·obtain⟨n,e,sz,by',z0,hti⟩:=harr
   have he:∀H k,BH call E k H s { dst:=dst,op:=.slice t x lo hi mx,type:=type,pos:=pos,after:=after,guard:=guard }=MW E H n e (ev E s x) (lo.map (ev E s)) (hi.map (ev E s)) (mx.map (ev E s)):=fun H k=>by simp only [BH,hti]
   rw [he] at h
   obtain⟨ids,g1,g2,g3⟩:=ZhM h
   exact⟨ids,none,fun i hi=>List.mem_flatMap.2 ⟨x,by simpa using hx,g1 i hi⟩,by simp,g2,fun H' k' _ hs=>by rw [he];exact g3 H' (S9 hs hx)⟩
  ·have he:∀H k,BH call E k H s { dst:=dst,op:=.slice t x lo hi mx,type:=type,pos:=pos,after:=after,guard:=guard }=JC E H t (ev E s x) (lo.map (ev E s)) (hi.map (ev E s)) (mx.map (ev E s)):=fun H k=>by
    simp only [BH]
    simp_all
   rw [he] at h
   obtain⟨ids,g1,g2,g3⟩:=Zg3 h
   exact⟨ids,none,fun i hi=>List.mem_flatMap.2 ⟨x,by simpa using hx,g1 i hi⟩,by simp,g2,fun H' k' _ hs=>by rw [he];exact g3 H' (S9 hs hx)⟩
 case call c=>
  cases hcal:c.callee with
  | invoke r n=>exact absurd (by simp [Bd,hcal]) hc
  | builtin b=>
   by_cases hb:b = .len
   ·subst hb
    have he:∀H k,BH call E k H s { dst:=dst,op:=.call c,type:=type,pos:=pos,after:=after,guard:=guard }=Ns E k H s .len (evs E s c.args) c.argTypes.toList:=fun H k=>by simp only [BH,hcal]
    refine aQ (y:=fun H=>(Ns E 0 H s .len (evs E s c.args) c.argTypes.toList).map (·.1)) (fun H k=>?_) h (fun H' hs=>?_)
    ·rw [he]
     unfold Ns
     split<;>try rfl
     ·split
      ·cases lenOf H _<;>rfl
      ·rfl
     all_goals simp_all
    ·have h1:=sF rfl hs
     generalize evs E s c.args=xs at h1 ⊢
     simp only [Ns]
     split<;>try rfl
     ·split
      ·rw [pO (fun i hi=>h1 i (by simpa using hi))]
       rename_i x t _ _ _
       cases lenOf H x<;>rfl
      ·rfl
     all_goals simp_all
   ·exfalso
    revert hc hs
    unfold Bd
    cases b<;>simp_all
  | value f=>
   cases f with
   | func f=>
    by_cases hp:Pg E f=true
    ·have he:∀H k,BH call E k H s { dst:=dst,op:=.call c,type:=type,pos:=pos,after:=after,guard:=guard }=call f (evs E s c.args) H:=fun H k=>by simp [BH,hcal,ev]
     rw [he] at h
     obtain⟨h1,h2⟩:=hpure f hp _ _ _ _ h
     refine⟨(evs E s c.args).flatMap Dh,none,fun i hi=>pX rfl (nS hi),by simp,h1,fun H' k' _ hs=>?_⟩
     rw [he]
     exact h2 H' (sF rfl hs)
    ·by_cases hfr:PY E f=true
     ·exact absurd (by unfold Bd;simp only [hcal];rw [if_neg hp,if_pos hfr]) hcc
     ·exact absurd (by unfold Bd;simp only [hcal];rw [if_neg hp,if_neg hfr]) hc
   | tmp t=>
    have hqt:(E.quiet&&type != 0)=true:=by
     cases hh:(E.quiet&&type != 0) with
     | true=>rfl
     | false=>exact absurd (by simp only [Bd,hcal,hh];rfl) hc
    simp only [quietAt,hcal,hqt,Bool.not_true,Bool.false_or] at hq
    cases hv:s.getD t .und with
    | fn g a b=>
     rw [hv] at hq
     simp only [bZ,Bool.and_eq_true] at hq
     have he:∀H k,BH call E k H s { dst:=dst,op:=.call c,type:=type,pos:=pos,after:=after,guard:=guard }=call g (a++evs E s c.args++b) H:=fun H k=>by
      simp only [BH,hcal,ev,hv]
     rw [he] at h
     obtain⟨h1,h2⟩:=hpure g hq.1 _ _ _ _ h
     have hin:∀i∈(a++evs E s c.args++b).flatMap DI,i∈Di E s { dst:=dst,op:=.call c,type:=type,pos:=pos,after:=after,guard:=guard }:=by
      intro i hi
      obtain⟨x,hx,hix⟩:=List.mem_flatMap.1 hi
      have hab:x∈a++b->i∈Di E s { dst:=dst,op:=.call c,type:=type,pos:=pos,after:=after,guard:=guard }:=fun hm=>by
       have hnf:=List.all_eq_true.1 hq.2 x hm
       have hix' : i∈Wy x:=by cases x<;>first|exact hix|(simp [dZ] at hnf)
       refine List.mem_flatMap.2 ⟨.tmp t,by simp [Op.operands,Call.operands,hcal],?_⟩
       show i∈DI (s.getD t .und)
       rw [hv]
       exact List.mem_flatMap.2 ⟨x,hm,hix'⟩
      rcases List.mem_append.1 hx with hx|hx
      ·rcases List.mem_append.1 hx with hx|hx
       ·simp_all
       ·exact pX rfl (List.mem_flatMap.2 ⟨x,hx,hix⟩)
      ·simp_all
     refine⟨(a++evs E s c.args++b).flatMap Dh,none,fun i hi=>hin i (nS hi),by simp,h1,fun H' k' _ hs=>?_⟩
     rw [he]
     exact h2 H' fun i hi=>hs i (hin i hi)
    | _=>rw [hv] at hq;simp [bZ] at hq
   | _=>exact absurd (by simp [Bd,hcal]) hc
 all_goals (refine absurd ?_ hc;simp [Bd];done)
theorem Z5J {call:Df} {E:Env} (hfree:cO E call) {k:Nat} {H H1:Heap} {s:List V} {o:Oper} {v:V} (hc:Bd E o = .c) (h:BH call E k H s o=some (v,H1)) :
  ∃ids nbs,(∀i∈ids,i∈Di E s o)/\H1=bump H ids++nbs/\∀H' k',H'.length=H.length->DU (Di E s o) H H' -> BH call E k' H' s o=some (v,bump H' ids++nbs):=by
 obtain⟨dst,op,type,pos,after,guard⟩:=o
 cases op<;>simp only [Bd] at hc<;>first|(cases hc;done)|skip
 case convert=>split at hc<;>cases hc
 case assign x=>exfalso;revert hc;split<;>simp_all
 case call c=>
  cases hcal:c.callee with
  | builtin b=>exfalso;revert hc;simp only [hcal];cases b<;>simp
  | invoke r n=>exfalso;revert hc;simp [hcal]
  | value f=>
  cases f with
  | tmp _=>exfalso;revert hc;simp only [hcal];split<;>simp
  | const _=>exfalso;revert hc;simp [hcal]
  | global _=>exfalso;revert hc;simp [hcal]
  | func f=>
  simp only [hcal] at hc
  split at hc
  ·cases hc
  ·split at hc
   ·rename_i hfr
    have he:∀H k,BH call E k H s { dst:=dst,op:=.call c,type:=type,pos:=pos,after:=after,guard:=guard }=call f (evs E s c.args) H:=fun H k=>by simp [BH,hcal,ev]
    rw [he] at h
    obtain⟨ids,nbs,h1,h2,h3⟩:=hfree f hfr _ _ _ _ h
    exact⟨ids,nbs,fun i hi=>pX rfl (h1 i hi),h2,fun H' k' hl hs=>by rw [he];exact h3 H' hl (sF rfl hs)⟩
   ·cases hc
theorem WW {E:Env} {o:Oper} (h:H5 E o=true):Bd E o = .w/\JK o=none:=by
 unfold H5 at h
 unfold Bd JK
 split at h
 ·rename_i c hop
  split at h
  ·rename_i f hc
   simp only [Bool.and_eq_true,Bool.not_eq_true'] at h
   simp only [hop,hc]
   simp [h.1,h.2.1]
  ·cases h
 ·cases h
theorem Z6L {call:Df} {E:Env} (hrow:dX E call) {k:Nat} {H H1:Heap} {s:List V} {o:Oper} {v:V} (hc:H5 E o=true) (h:BH call E k H s o=some (v,H1)) {n:Nat} {b0:Box} (h0:H[n]? = some b0) (hr0:b0.row=false) :
  H1[n]? = some b0/\∀b k',b.row=false->BH call E k' (H.set n b) s o=some (v,H1.set n b):=by
 obtain⟨dst,op,type,pos,after,guard⟩:=o
 unfold H5 at hc
 split at hc
 ·rename_i c hop
  simp only at hop
  subst hop
  split at hc
  ·rename_i f hcal
   simp only [Bool.and_eq_true,Bool.not_eq_true'] at hc
   have he:∀H k,BH call E k H s { dst:=dst,op:=.call c,type:=type,pos:=pos,after:=after,guard:=guard }=call f (evs E s c.args) H:=fun H k=>by simp [BH,hcal,ev]
   rw [he] at h
   exact⟨(hrow f hc.1 hc.2.1 hc.2.2 _ _ _ _ _ _ b0 h h0 hr0 hr0).1,fun b k' hb=>by rw [he];exact(hrow f hc.1 hc.2.1 hc.2.2 _ _ _ _ _ _ b h h0 hr0 hb).2⟩
  ·cases hc
 ·cases hc
theorem Z7f {call:Df} {E:Env} {k:Nat} {H H1:Heap} {s:List V} {o:Oper} {v:V} (hc:NU o=true) (h:BH call E k H s o=some (v,H1)) :
  ∃b,b.row=false/\H1=place H k b/\∀H',BH call E k H' s o=some (v,place H' k b):=by
 obtain⟨dst,op,type,pos,after,guard⟩:=o
 unfold NU at hc
 split at hc
 ·rename_i t hop
  simp only at hop
  subst hop
  simp only [BH] at h ⊢
  cases ht:E.ti t with
  | none=>simp [ht] at h
  | some i=>
   simp only [ht] at h ⊢
   cases hz:i.zero with
   | none=>simp [hz] at h
   | some z=>
    simp only [hz] at h ⊢
    split at h
    ·rename_i hok
     simp only [Option.some.injEq,Prod.mk.injEq] at h
     obtain⟨rfl,rfl⟩:=h
     exact⟨_,rfl,rfl,fun H' =>by rw [if_pos hok]⟩
    ·cases h
 ·cases hc
theorem Z7l {E:Env} {o:Oper} (h:NU o=true):Bd E o = .a:=by
 unfold NU at h
 split at h
 ·rename_i t hop
  unfold Bd
  rw [hop]
 ·cases h
end Go.Proofs.YtddbklgndkpipaaGreatDoor.Le
namespace Go.Proofs.YtddbklgndkpipaaGreatDoor.Le
def Hm (ids:List Nat) (i:Nat) (b:Box):Box:=if i∈ids then { b with floor:=b.xs.length } else b
theorem OD {ids:List Nat} {nb:Option Box} {k:Nat} {H:Heap} (hk:nb.isSome=true->k<H.length) (i:Nat) :
  (eff ids nb k H)[i]? = match nb with|some b=>if i=k then some b else (H[i]?).map (Hm ids i)|none=>(H[i]?).map (Hm ids i):=by
 cases nb with
 | none=>simp only [eff];rw [Il];rfl
 | some b=>
  have hk' : k<(bump H ids).length:=by rw [bump_length];exact hk rfl
  simp only [eff,place]
  rw [if_pos hk',List.getElem?_set]
  by_cases hi:i=k
  ·subst hi;simp [hk']
  ·rw [if_neg (fun e=>hi e.symm),if_neg hi,Il];rfl
theorem Ro {ids:List Nat} {nb:Option Box} {k:Nat} {H:Heap} (hk:nb.isSome=true->k<H.length):(eff ids nb k H).length=H.length:=by
 cases nb with
 | none=>exact bump_length H ids
 | some b=>
  have hk' : k<(bump H ids).length:=by rw [bump_length];exact hk rfl
  simp only [eff,place]
  rw [if_pos hk',List.length_set,bump_length]
theorem Yk (Ea ids2:List Nat) (i:Nat) (b:Box):Hm Ea i (Hm ids2 i b)=Hm ids2 i (Hm Ea i b):=by
 unfold Hm
 grind
theorem rO {Ea ids2:List Nat} {nb1 nb2:Option Box} {k1 k2:Nat} {H:Heap} (h1:nb1.isSome=true->k1<H.length/\k1∉ids2) (h2:nb2.isSome=true->k2<H.length/\k2∉Ea)
  (hne:nb1.isSome=true->nb2.isSome=true->k1≠k2):eff Ea nb1 k1 (eff ids2 nb2 k2 H)=eff ids2 nb2 k2 (eff Ea nb1 k1 H):=by
 have l1:=Ro (ids:=Ea) (fun h=>(h1 h).1)
 have l2:=Ro (ids:=ids2) (fun h=>(h2 h).1)
 apply List.ext_getElem?
 intro i
 rw [OD (ids:=Ea) (H:=eff ids2 nb2 k2 H) (fun h=>by rw [l2];exact(h1 h).1),OD (ids:=ids2) (H:=eff Ea nb1 k1 H) (fun h=>by rw [l1];exact(h2 h).1),OD (ids:=Ea) (H:=H) (fun h=>(h1 h).1),OD (ids:=ids2) (H:=H) (fun h=>(h2 h).1)]
 cases nb1 with
 | none=>
  cases nb2 with
  | none=>
   simp only
   cases H[i]? with
   | none=>rfl
   | some b=>simp only [Option.map_some,Yk]
  | some b2=>
   simp only
   by_cases hi:i=k2
   ·subst hi
    simp only [if_true,Option.map_some]
    simp [Hm,(h2 rfl).2]
   ·simp only [hi,if_false]
    cases H[i]? with
    | none=>rfl
    | some b=>simp only [Option.map_some,Yk]
 | some b1=>
  cases nb2 with
  | none=>
   simp only
   by_cases hi:i=k1
   ·subst hi
    simp only [if_true,Option.map_some]
    simp [Hm,(h1 rfl).2]
   ·simp only [hi,if_false]
    cases H[i]? with
    | none=>rfl
    | some b=>simp only [Option.map_some,Yk]
  | some b2=>
   have hkk:=hne rfl rfl
   simp only
   by_cases hi:i=k1
   ·subst hi
    rw [if_pos rfl,if_neg hkk,if_pos rfl]
    simp [Hm,(h1 rfl).2]
   ·by_cases hj:i=k2
    ·subst hj
     rw [if_neg hi,if_pos rfl,if_pos rfl]
     simp [Hm,(h2 rfl).2]
    ·rw [if_neg hi,if_neg hj,if_neg hj,if_neg hi]
     cases H[i]? with
     | none=>rfl
     | some b=>simp only [Option.map_some,Yk]
theorem Z54 (ids:List Nat) (i:Nat) (b:Box):(Hm ids i b).low=b.low:=by
 unfold Hm
 split<;>rfl
theorem QX {R ids:List Nat} {nb:Option Box} {k:Nat} {H:Heap} (hk:nb.isSome=true->k<H.length/\k∉R):DU R H (eff ids nb k H):=by
 intro i hi
 rw [OD (fun h=>(hk h).1)]
 cases nb with
 | none=>
  simp only
  cases H[i]? with
  | none=>rfl
  | some b=>simp only [Option.map_some,Z54]
 | some b=>
  have:i≠k:=fun e=>(hk rfl).2 (e▸hi)
  simp only [this,if_false]
  cases H[i]? with
  | none=>rfl
  | some b=>simp only [Option.map_some,Z54]
theorem DU.symm {R:List Nat} {H H' : Heap} (h:DU R H H'):DU R H' H:=fun i hi=>(h i hi).symm
theorem Z5I {ids:List Nat} {nb:Option Box} {k j:Nat} {H:Heap} (hk:nb.isSome=true->k<H.length/\k≠j):(∃b,(eff ids nb k H)[j]? = some b/\(b.live=false/\b.row=false))↔∃b,H[j]? = some b/\(b.live=false/\b.row=false):=by
 rw [OD (fun h=>(hk h).1)]
 have hm:(∃b,(H[j]?).map (Hm ids j)=some b/\(b.live=false/\b.row=false))↔∃b,H[j]? = some b/\(b.live=false/\b.row=false):=by
  cases H[j]? with
  | none=>simp
  | some b=>
   simp only [Option.map_some,Option.some.injEq,exists_eq_left']
   unfold Hm
   split<;>rfl
 grind
section
variable {call:Df} {E:Env} {ops:Array Oper} {ms:List Nat} {lt:List (Nat×(Nat⊕Nat))} {s0:List V} {base m:Nat}
def DJ (E:Env) (o:Oper) (base i:Nat) (H:Heap):Nat:=if Bd E o = .a then base+i else H.length
def OM (E:Env) (ops:Array Oper) (ms:List Nat) (lt:List (Nat×(Nat⊕Nat))) (s0:List V) (base m i:Nat) (s:List V) (o:Oper):Prop:=(∀id∈Di E s o,id<base\/(base+m<=id/\Sm E ops ms i=true)\/(id<base+m/\(ms.getD i 0).testBit (id - base)=true))/\quietAt E s o=true/\Jq E ops ms lt s0 base i s o=true
def PZ (E:Env) (ops:Array Oper) (base m:Nat) (o:Oper) (H:Heap):Prop:=Hu E o=true->base+m<=H.length/\(H5 E o=true->Kw ops base H=true)
theorem aC {i:Nat} {o:Oper} (ho:ops[i]? = some o) {st st' : St}:Ht call E ops ms lt s0 base m i st=some st' ↔
  OM E ops ms lt s0 base m i st.s o/\(Fz E ms lt s0 base i st.s st.H o=true/\PZ E ops base m o st.H)/\(Bd E o = .a->∃b,st.H[base+i]? = some b/\(b.live=false/\b.row=false))/\∃v H',ES call E ops (DJ E o base i st.H) o st=some (v,H')/\st' = ⟨setSlot st.s o.dst v,H'⟩:=by
 have hst:∀k,L6 call E ops k i st=some st' ↔∃v H',ES call E ops k o st=some (v,H')/\st' = ⟨setSlot st.s o.dst v,H'⟩:=by
  intro k
  unfold L6
  simp only [ho]
  cases hact:ES call E ops k o st with
  | none=>simp
  | some r=>
   grind
 unfold Ht
 simp only [ho]
 have hsee:(((Di E st.s o).all fun id=>decide (id<base)||(decide (base+m<=id)&&Sm E ops ms i)||(decide (id<base+m)&&(ms.getD i 0).testBit (id - base)))&&(quietAt E st.s o&&Jq E ops ms lt s0 base i st.s o)&&(Fz E ms lt s0 base i st.s st.H o&&(!Hu E o||(decide (base+m<=st.H.length)&&(!H5 E o||Kw ops base st.H)))))=true↔
   OM E ops ms lt s0 base m i st.s o/\Fz E ms lt s0 base i st.s st.H o=true/\PZ E ops base m o st.H:=by
  unfold OM
  rw [Bool.and_eq_true,Bool.and_eq_true,Bool.and_eq_true,Bool.and_eq_true,List.all_eq_true]
  have hc:(!Hu E o||(decide (base+m<=st.H.length)&&(!H5 E o||Kw ops base st.H)))=true↔PZ E ops base m o st.H:=by
   unfold PZ;cases h:Hu E o<;>cases h2:H5 E o<;>simp
  rw [hc]
  simp only [Bool.or_eq_true,Bool.and_eq_true,decide_eq_true_eq,or_assoc]
 by_cases hs:OM E ops ms lt s0 base m i st.s o/\Fz E ms lt s0 base i st.s st.H o=true/\PZ E ops base m o st.H
 ·rw [if_pos (hsee.2 hs)]
  unfold DJ
  grind
 grind
theorem Y1 {o:Oper} {a:Operand} (h:JK o=some a):(∃t v,o.op = .store t a v)\/∃c x,o.op = .call c/\c.callee = .builtin .append/\c.args.toList=[a,x]:=by
 unfold JK at h
 grind
theorem Z0H {o:Oper} {a:Operand} (h:JK o=some a):a∈o.op.operands:=by
 rcases Y1 h with ⟨t,v,hop⟩|⟨c,x,hop,h1,h2⟩
 ·simp [hop,Op.operands]
 ·have:a∈c.args:=by
   have:a∈c.args.toList:=by rw [h2];simp
   simpa using this
  simp [hop,Op.operands,Call.operands,this]
theorem bY {o:Oper} {t:Nat⊕Nat} (h:Qk E ops o=some t):Bd E o = .w/\o.guard=none/\∃d,JK o=some (.tmp d):=by
 unfold Qk at h
 split at h
 ·rename_i d hg hw
  refine⟨?_,hg,⟨d,hw⟩⟩
  rcases Y1 hw with ⟨t,v,hop⟩|⟨c,x,hop,h1,h2⟩
  ·unfold Bd;rw [hop]
  ·unfold Bd;rw [hop];simp only [h1]
 ·cases h
theorem Zjo {x:Nat} {t:Nat⊕Nat} (h:(x,t)∈OT E ops):∃ox,ops[x]? = some ox/\Qk E ops ox=some t:=by
 unfold OT at h
 grind
theorem Z6K {o:Oper} (h:needs E o=true):Bd E o≠.w:=by
 unfold needs at h
 grind
theorem Z48 {s:List V} {o:Oper} {d:Option Tmp} {v:V} (h:∀d',d=some d' -> d' ∉o.looksAt ops):addrOf E (setSlot s d v) o=addrOf E s o:=by
 unfold addrOf
 split
 ·rename_i a hw
  exact dP _ fun d' hd=>aT (h d' hd) a (Z0H hw)
 ·rfl
theorem Z4q {s:List V} {H:Heap} {i:Nat} {o:Oper} {d:Option Tmp} {v:V} (h:∀d',d=some d' -> d' ∉o.looksAt ops):Fz E ms lt s0 base i (setSlot s d v) H o=Fz E ms lt s0 base i s H o:=by
 unfold Fz
 rw [Z48 h,Yz h]
theorem Gw {s:List V} {H H' : Heap} {i:Nat} {o:Oper} (h:∀t,(i,t)∉lt) (hl:Fz E ms lt s0 base i s H o=true):Fz E ms lt s0 base i s H' o=true:=by
 unfold Fz at *
 rw [List.all_eq_true] at *
 grind
theorem Z3B {s:List V} {H H' : Heap} {i:Nat} {o:Oper} (h:∀p∈lt,∀k,p.1=i->OU base s0 p.2=some k->H'[k]? = H[k]?) (hl:Fz E ms lt s0 base i s H o=true):Fz E ms lt s0 base i s H' o=true:=by
 unfold Fz at *
 rw [List.all_eq_true] at *
 intro p hp
 have hh:=hl p hp
 cases ht:OU base s0 p.2 with
 | none=>rw [ht] at hh;cases hh
 | some k=>
  rw [ht] at hh
  simp only at hh ⊢
  split
  ·rename_i he
   rw [if_pos he] at hh
   have hk:=h p hp k he ht
   unfold MZ at *
   split at hh
   ·rename_i id a b tot haddr
    simp only [Bool.and_eq_true,beq_iff_eq] at hh ⊢
    obtain⟨rfl,hh⟩:=hh
    refine⟨rfl,?_⟩
    unfold DY at *
    simp_all
   ·grind
   ·cases hh
  simp_all
theorem Zgv {H H1:Heap} {t:TypeId} {a v:V} {k:Nat} (hl:MZ H a k=true) (h:KO E H t a v=some H1) :
  ∃b,k<H.length/\H1=H.set k b/\∀H',H'[k]? = H[k]? -> KO E H' t a v=some (H'.set k b):=by
 unfold MZ at hl
 split at hl
 ·rename_i id i off tot
  simp only [Bool.and_eq_true,beq_iff_eq] at hl
  obtain⟨rfl,hl⟩:=hl
  cases hb:DY H id tot with
  | none=>rw [hb] at hl;cases hl
  | some b=>
   rw [hb] at hl
   simp only [Bool.not_eq_true'] at hl
   have hlt:id<H.length:=by
    unfold DY at hb
    cases hh:H[id]? with
    | none=>rw [hh] at hb;cases hb
    | some b0=>grind
   have hb' : ∀H' : Heap,H'[id]? = H[id]? -> DY H' id tot=some b:=fun H' he=>by
    unfold DY at *
    grind
   unfold KO at h
   cases hti:E.ti t with
   | none=>simp_all
   | some ii=>
    simp only [hti,hb] at h
    cases hx:b.xs[i]? with
    | none=>simp_all
    | some x=>
     simp only [hx,hl,Bool.false_eq_true,if_false] at h
     split at h
     ·rename_i hc
      cases hs:KI x off v.cells with
      | none=>simp_all
      | some x' =>
       simp only [hs] at h
       split at h
       ·rename_i ho
        simp only [Option.some.injEq] at h
        refine⟨_,hlt,h.symm,fun H' he=>?_⟩
        unfold KO
        simp_all
       ·cases h
     ·cases h
 ·unfold KO at h
  split at h<;>cases h
 ·cases hl
theorem Zfj {H H1:Heap} {k0:Nat} {t u:TypeId} {a x r:V} {k:Nat} (hl:MZ H a k=true) (h:Jl E k0 H t u a x=some (r,H1)) :
  ∃b,k<H.length/\H1=H.set k b/\∀k' H',H'[k]? = H[k]? -> DU (DI x) H H' -> Jl E k' H' t u a x=some (r,H'.set k b):=by
 unfold MZ at hl
 split at hl
 ·unfold Jl at h
  grind
 ·rename_i id off len tot
  simp only [Bool.and_eq_true,beq_iff_eq] at hl
  obtain⟨rfl,hl⟩:=hl
  have hlt:id<H.length:=by
   cases hh:H[id]? with
   | none=>rw [hh] at hl;cases hl
   | some b0=>exact(List.getElem?_eq_some_iff.1 hh).1
  unfold Jl at h
  split at h
  ·rename_i e sz by' z0 hti
   split at h
   ·rename_i ei ys hei hut hys
    split at h
    ·rename_i hcond
     simp only at h
     cases hb:DY H id tot with
     | none=>rw [hb] at h;cases h
     | some b=>
      simp only [hb] at h
      split at h
      ·rename_i hc
       split at h
       ·rename_i hlim
        simp only [Option.some.injEq,Prod.mk.injEq] at h
        obtain⟨rfl,rfl⟩:=h
        refine⟨_,hlt,rfl,fun k' H' he hs=>?_⟩
        have hb' : DY H' id tot=some b:=by
         unfold DY at *
         rw [he]
         exact hb
        unfold Jl
        simp only [hti,hei,hut,YX hs,hys,aN hs]
        simp_all
       ·cases h
      ·rename_i hc0
       split at h
       ·rename_i hc
        simp only [Option.some.injEq,Prod.mk.injEq] at h
        obtain⟨rfl,rfl⟩:=h
        refine⟨_,hlt,rfl,fun k' H' he hs=>?_⟩
        have hb' : DY H' id tot=some b:=by
         unfold DY at *
         rw [he]
         exact hb
        unfold Jl
        simp only [hti,hei,hut,YX hs,hys,aN hs]
        simp_all
       ·cases h
    ·cases h
   ·cases h
  ·cases h
 ·cases hl
theorem bH {ids:List Nat} {nb:Option Box} {k k' : Nat} {H:Heap} {b:Box} (hk:nb.isSome=true->k' < H.length/\k' ≠k) (hid:k∉ids):eff ids nb k' (H.set k b)=(eff ids nb k' H).set k b:=by
 apply List.ext_getElem?
 intro i
 rw [OD (H:=H.set k b) (fun h=>by simp_all),List.getElem?_set,List.getElem?_set,Ro (fun h=>(hk h).1),OD (fun h=>(hk h).1)]
 by_cases hki:k=i
 ·subst hki
  simp only [if_true]
  cases nb with
  | none=>
   simp only
   split
   ·simp [Hm,hid]
   ·rfl
  | some b2=>
   have:¬k=k' :=fun e=>(hk rfl).2 e.symm
   simp only [this,if_false]
   split
   ·simp [Hm,hid]
   ·rfl
 grind
theorem Z75 {ids:List Nat} {nb:Option Box} {k k' : Nat} {H:Heap} (hk:nb.isSome=true->k' < H.length/\k' ≠k) (hid:k∉ids):(eff ids nb k' H)[k]? = H[k]?:=by
 rw [OD (fun h=>(hk h).1)]
 cases nb with
 | none=>
  simp only
  cases H[k]? with
  | none=>rfl
  | some b=>simp [Hm,hid]
 | some b2=>
  have:¬k=k' :=fun e=>(hk rfl).2 e.symm
  simp only [this,if_false]
  cases H[k]? with
  | none=>rfl
  | some b=>simp [Hm,hid]
theorem Z4V {k i:Nat} {t:Nat⊕Nat} {o:Oper} {s:List V} {H H1:Heap} {v:V} (ht:Qk E ops o=some t) (hin:(i,t)∈lt) (hl:Fz E ms lt s0 base i s H o=true) (h:ES call E ops k o ⟨s,H⟩=some (v,H1)) :
  ∃b n,OU base s0 t=some n/\n∈Di E s o/\n<H.length/\H1=H.set n b/\∀k' H',H'[n]? = H[n]? -> DU (Di E s o) H H' -> ES call E ops k' o ⟨s,H'⟩=some (v,H'.set n b):=by
 obtain⟨_,hg,⟨d,hw⟩⟩:=bY ht
 unfold Fz at hl
 rw [List.all_eq_true] at hl
 have hl:=hl _ hin
 cases hn:OU base s0 t with
 | none=>simp_all
 | some n=>
  simp only [hn,if_true] at hl
  unfold addrOf at hl
  simp only [hw] at hl
  have haddr:n∈Di E s o:=by
   unfold Di
   rw [List.mem_flatMap]
   refine⟨.tmp d,by simpa using Z0H hw,?_⟩
   unfold MZ at hl
   split at hl
   ·rename_i he
    simp only [Bool.and_eq_true,beq_iff_eq] at hl
    rw [he,<- hl.1]
    simp [DI,Dv]
   ·rename_i he
    simp only [Bool.and_eq_true,beq_iff_eq] at hl
    rw [he,<- hl.1]
    simp [DI,Dv]
   ·cases hl
  unfold ES at h ⊢
  simp only [hg] at h ⊢
  rcases Y1 hw with ⟨t',x,hop⟩|⟨c,x,hop,hc1,hc2⟩
  ·unfold BH at h ⊢
   simp only [hop] at h ⊢
   cases hst:KO E H t' (ev E s (.tmp d)) (ev E s x) with
   | none=>rw [hst] at h;cases h
   | some H2=>
    rw [hst] at h
    simp only [Option.map_some,Option.some.injEq,Prod.mk.injEq] at h
    obtain⟨rfl,rfl⟩:=h
    obtain⟨b,h1,h2,h3⟩:=Zgv hl hst
    grind
  ·have hargs:evs E s c.args=[ev E s (.tmp d),ev E s x]:=by unfold evs;rw [hc2];rfl
   unfold BH at h ⊢
   simp only [hop,hc1,hargs] at h ⊢
   unfold Ns at h ⊢
   split at h
   ·rename_i h1 _;cases h1
   ·rename_i a y t' u' hb he1 he2
    simp only [List.cons.injEq,and_true] at he1
    obtain⟨rfl,rfl⟩:=he1
    obtain⟨b,h1,h2,h3⟩:=Zfj hl h
    refine⟨b,n,rfl,haddr,h1,h2,fun k' H' he hs=>h3 k' H' he (fun id hid=>hs id ?_)⟩
    unfold Di
    rw [List.mem_flatMap]
    have:x∈c.args:=by
     have:x∈c.args.toList:=by rw [hc2];simp
     simpa using this
    exact⟨x,by simp [hop,Op.operands,Call.operands,this],hid⟩
   ·simp_all
   ·rename_i h1;cases h1
   ·rename_i h1;cases h1
   ·cases h
theorem Z5A {i x n:Nat} {t:Nat⊕Nat} {o:Oper} {s:List V} {H:Heap} (hin:(x,t)∈lt) (hne:x≠i) (hn:needs E o=true) (hbit:(ms.getD i 0).testBit x=false) (hbit' : (ms.getD x 0).testBit i=false) (ht:OU base s0 t=some n)
  (hl:Fz E ms lt s0 base i s H o=true):n∉Di E s o:=by
 unfold Fz at hl
 rw [List.all_eq_true] at hl
 have hl:=hl _ hin
 simp only [ht,if_neg hne,hn,linked,hbit,hbit',Bool.or_self,Bool.not_true,Bool.false_or,Bool.not_eq_true'] at hl
 simpa using hl
theorem Z71 {k:Nat} {o:Oper} {s:List V} {H H1:Heap} {v:V} (hc:Bd E o = .s) (h:ES call E ops k o ⟨s,H⟩=some (v,H1)):H1=H/\∀H' k',ES call E ops k' o ⟨s,H'⟩=some (v,H'):=by
 unfold ES at *
 cases hg:o.guard with
 | none=>simp only [hg] at h ⊢;exact vH hc h
 | some jw=>
  obtain⟨j,want⟩:=jw
  simp only [hg] at h ⊢
  cases hd:(ops[j]?).bind (·.dst) with
  | none=>simp [hd] at h
  | some d=>
   simp only [hd] at h ⊢
   cases hgd:JS (s.getD d .und) want with
   | none=>rw [hgd] at h;cases h
   | some r=>
    rw [hgd] at h
    cases r with
    | true=>simp only at h ⊢;exact vH hc h
    | false=>
     simp_all
theorem SE (hpure:dG E call) {k:Nat} {o:Oper} {s:List V} {H H1:Heap} {v:V} (hc:Bd E o≠.w) (hcc:Bd E o≠.c) (hq:quietAt E s o=true) (h:ES call E ops k o ⟨s,H⟩=some (v,H1)) :
  ∃ids nb,(∀i∈ids,i∈Di E s o)/\(nb.isSome=true->Bd E o = .a)/\H1=eff ids nb k H /\
   ∀H' k',(Bd E o = .a->k' = k)->DU (Di E s o) H H' -> ES call E ops k' o ⟨s,H'⟩=some (v,eff ids nb k' H'):=by
 unfold ES at *
 cases hg:o.guard with
 | none=>simp only [hg] at h ⊢;exact Z6m hpure hc hcc hq h
 | some jw=>
  obtain⟨j,want⟩:=jw
  simp only [hg] at h ⊢
  cases hd:(ops[j]?).bind (·.dst) with
  | none=>simp [hd] at h
  | some d=>
   simp only [hd] at h ⊢
   cases hgd:JS (s.getD d .und) want with
   | none=>rw [hgd] at h;cases h
   | some r=>
    rw [hgd] at h
    cases r with
    | true=>simp only at h ⊢;exact Z6m hpure hc hcc hq h
    | false=>
     simp only [Option.some.injEq,Prod.mk.injEq] at h ⊢
     exact⟨[],none,by simp,by simp,h.2.symm,fun H' k' _ _=>⟨h.1,rfl⟩⟩
theorem Yp (hfree:cO E call) {k:Nat} {o:Oper} {s:List V} {H H1:Heap} {v:V} (hc:Bd E o = .c) (h:ES call E ops k o ⟨s,H⟩=some (v,H1)) :
  ∃ids nbs,(∀i∈ids,i∈Di E s o)/\H1=bump H ids++nbs/\∀H' k',H'.length=H.length->DU (Di E s o) H H' -> ES call E ops k' o ⟨s,H'⟩=some (v,bump H' ids++nbs):=by
 unfold ES at *
 cases hg:o.guard with
 | none=>simp only [hg] at h ⊢;exact Z5J hfree hc h
 | some jw=>
  obtain⟨j,want⟩:=jw
  simp only [hg] at h ⊢
  cases hd:(ops[j]?).bind (·.dst) with
  | none=>simp [hd] at h
  | some d=>
   simp only [hd] at h ⊢
   cases hgd:JS (s.getD d .und) want with
   | none=>rw [hgd] at h;cases h
   | some r=>
    rw [hgd] at h
    cases r with
    | true=>simp only at h ⊢;exact Z5J hfree hc h
    | false=>
     simp only [Option.some.injEq,Prod.mk.injEq] at h ⊢
     exact⟨[],[],by simp,by rw [List.append_nil];exact h.2.symm,fun H' k' _ _=>⟨h.1,by rw [List.append_nil];rfl⟩⟩
theorem Z2z {ids:List Nat} {H:Heap} (ys:List Box) (h:∀i∈ids,i<H.length):bump (H++ys) ids=bump H ids++ys:=by
 apply List.ext_getElem?
 intro i
 rw [Il,List.getElem?_append,List.getElem?_append,bump_length,Il]
 grind
theorem Z3W {ids:List Nat} {nb:Option Box} {k:Nat} {H:Heap} (ys:List Box) (h:∀i∈ids,i<H.length) (hk:nb.isSome=true->k<H.length):eff ids nb k (H++ys)=eff ids nb k H++ys:=by
 cases nb with
 | none=>exact Z2z ys h
 | some b=>
  have hk:=hk rfl
  simp only [eff,place,Z2z ys h,List.length_append,bump_length]
  rw [if_pos (by omega),if_pos hk,List.set_append_left _ _ (by rw [bump_length];exact hk)]
theorem Yj {R:List Nat} {H H' : Heap} (ys:List Box) (h:DU R H H') (hR:∀i∈R,i<H'.length):DU R H (H' ++ys):=by
 intro i hi
 rw [List.getElem?_append_left (hR i hi)]
 exact h i hi
theorem PH (R ids:List Nat) (H:Heap):DU R H (bump H ids):=by
 have:=QX (R:=R) (ids:=ids) (nb:=none) (k:=0) (H:=H) (fun h=>by cases h)
 exact this
theorem Z6D {R:List Nat} {H:Heap} {n:Nat} {b:Box} (h:n∉R):DU R H (H.set n b):=by
 intro i hi
 grind
theorem DU.trans {R:List Nat} {H H' H2:Heap} (h:DU R H H') (k:DU R H' H2):DU R H H2:=fun i hi=>(h i hi).trans (k i hi)
theorem Zdn {s:List V} {d e:Option Tmp} {v u:V} (h:∀x,d=some x->e≠some x):setSlot (setSlot s d v) e u=setSlot (setSlot s e u) d v:=by
 cases d with
 | none=>rfl
 | some d=>
  cases e with
  | none=>rfl
  | some e=>
   have:d≠e:=fun hh=>h d rfl (by rw [hh])
   simp only [setSlot]
   exact List.set_comm v u this
theorem dM {o:Oper} (h:Bd E o = .c):Hu E o=true:=by simp [Hu,h]
theorem rE {o:Oper} (h:H5 E o=true):Hu E o=true:=by simp [Hu,h]
theorem Z5S {o:Oper} (h:Hu E o=true) (hc:Bd E o≠.c):H5 E o=true:=by simpa [Hu,hc] using h
theorem Znj {o:Oper} (hc:Bd E o≠.c) (hw:Bd E o≠.w):Hu E o=false:=by
 cases h:Hu E o with
 | false=>rfl
 | true=>exact absurd (WW (Z5S h hc)).1 hw
theorem rH (hrow:dX E call) {k:Nat} {o:Oper} {s:List V} {H H1:Heap} {v:V} (hc:H5 E o=true) (h:ES call E ops k o ⟨s,H⟩=some (v,H1)) {n:Nat} {b0:Box} (h0:H[n]? = some b0) (hr0:b0.row=false) :
  H1[n]? = some b0/\∀b k',b.row=false->ES call E ops k' o ⟨s,H.set n b⟩=some (v,H1.set n b):=by
 unfold ES at *
 cases hg:o.guard with
 | none=>simp only [hg] at h ⊢;exact Z6L hrow hc h h0 hr0
 | some jw=>
  obtain⟨j,want⟩:=jw
  simp only [hg] at h ⊢
  cases hd:(ops[j]?).bind (·.dst) with
  | none=>simp [hd] at h
  | some d=>
   simp only [hd] at h ⊢
   cases hgd:JS (s.getD d .und) want with
   | none=>rw [hgd] at h;cases h
   | some r=>
    rw [hgd] at h
    cases r with
    | true=>simp only at h ⊢;exact Z6L hrow hc h h0 hr0
    | false=>
     simp only [Option.some.injEq,Prod.mk.injEq] at h ⊢
     obtain⟨rfl,rfl⟩:=h
     exact⟨h0,fun b k' _=>⟨rfl,rfl⟩⟩
theorem Z6x {k:Nat} {o:Oper} {s:List V} {H H1:Heap} {v:V} (hc:NU o=true) (h:ES call E ops k o ⟨s,H⟩=some (v,H1)) :
  (∃b,b.row=false/\H1=place H k b/\∀H',ES call E ops k o ⟨s,H'⟩=some (v,place H' k b))\/(H1=H/\∀H',ES call E ops k o ⟨s,H'⟩=some (v,H')):=by
 unfold ES at *
 cases hg:o.guard with
 | none=>simp only [hg] at h ⊢;exact .inl (Z7f hc h)
 | some jw=>
  obtain⟨j,want⟩:=jw
  simp only [hg] at h ⊢
  cases hd:(ops[j]?).bind (·.dst) with
  | none=>simp [hd] at h
  | some d=>
   simp only [hd] at h ⊢
   cases hgd:JS (s.getD d .und) want with
   | none=>rw [hgd] at h;cases h
   | some r=>
    rw [hgd] at h
    cases r with
    | true=>simp only at h ⊢;exact .inl (Z7f hc h)
    | false=>
     simp only [Option.some.injEq,Prod.mk.injEq] at h ⊢
     exact .inr ⟨h.2.symm,fun H' =>⟨h.1,trivial⟩⟩
theorem eQ {o:Oper} (h:H5 E o=true) (hc:Bd E o = .c):False:=by
 have:=(WW h).1
 rw [hc] at this
 cases this
theorem JL {o:Oper} {H:Heap} (hc:Bd E o≠.c) (hw:Bd E o≠.w):PZ E ops base m o H:=fun h=>by
 rw [Znj hc hw] at h
 cases h
theorem rY {o:Oper} {t:Nat⊕Nat} (ht:Qk E ops o=some t) (h:Hu E o=true):False:=by
 obtain⟨h1,_,d,hd⟩:=bY ht
 have:=(WW (Z5S h (by rw [h1];simp))).2
 rw [hd] at this
 cases this
theorem Zmw {H:Heap} {y:Nat} {oy:Oper} (hy:ops[y]? = some oy) (ha:NU oy=true) (h:Kw ops base H=true):∃b,H[base+y]? = some b/\b.row=false:=by
 unfold Kw at h
 rw [List.all_eq_true] at h
 have h:=h y (by simpa using (Array.getElem?_eq_some_iff.1 hy).1)
 simp only [hy,ha,Bool.not_true,Bool.false_or] at h
 cases hb:H[base+y]? with
 | none=>rw [hb] at h;cases h
 | some b=>rw [hb] at h;exact⟨b,rfl,by simpa using h⟩
theorem Z5R {H:Heap} {n:Nat} {b:Box} (hr:b.row=false) (h:Kw ops base H=true):Kw ops base (H.set n b)=true:=by
 unfold Kw at *
 rw [List.all_eq_true] at h ⊢
 intro j hj
 have h:=h j hj
 cases ho:ops[j]? with
 | none=>rfl
 | some o=>
  rw [ho] at h
  simp only [Bool.or_eq_true,Bool.not_eq_true'] at h ⊢
  rcases h with h|h
  ·exact .inl h
  ·refine .inr ?_
   cases hb:H[base+j]? with
   | none=>rw [hb] at h;cases h
   | some c=>
    rw [hb] at h
    have hlt:=(List.getElem?_eq_some_iff.1 hb).1
    by_cases e:n=base+j
    ·subst e
     rw [List.getElem?_set_self hlt]
     simp [hr]
    ·rw [List.getElem?_set_ne e,hb]
     exact h
theorem uC {o:Oper} (h:Ia o=true):Bd E o = .n:=by
 unfold Ia at h
 split at h
 ·rename_i t a hop
  unfold Bd
  rw [hop]
 ·cases h
theorem Z3V {o:Oper} (h:Ia o=true):needs E o=true:=by
 unfold needs
 rw [uC h]
theorem Z6B {o:Oper} (h:isApp o=true):Bd E o = .w:=by
 unfold isApp at h
 split at h
 ·rename_i c hop
  split at h
  ·rename_i hc
   unfold Bd
   simp only [hop,hc]
  ·cases h
 ·cases h
theorem ZhR {x y:Oper} (h:x.apart ops y=true):y.apart ops x=true:=by
 unfold Oper.apart at *
 grind
theorem Z4M {s:List V} {i:Nat} {o:Oper} {d:Option Tmp} {v:V} (h:∀d',d=some d' -> d' ∉o.looksAt ops):Jq E ops ms lt s0 base i (setSlot s d v) o=Jq E ops ms lt s0 base i s o:=by
 unfold Jq
 rw [Z48 h,Yz h]
theorem Z5i {i j:Nat} {s:List V} {o oj:Oper} (hj:ops[j]? = some oj) (ha:isApp o=true) (hl:Ia oj=true) (hlt:lt.any (fun p=>p.1==i)=false) (hk:linked ms i j=false) (h:Jq E ops ms lt s0 base i s o=true) :
  ∃n id,TV E ops base s0 oj=some n/\(∃a b c,addrOf E s o = .Be id a b c)/\n≠id:=by
 unfold Jq at h
 rw [List.all_eq_true] at h
 have h:=h j (by simpa using (Array.getElem?_eq_some_iff.1 hj).1)
 simp only [hj,ha,hl,hlt,hk,Bool.and_self,Bool.not_true,Bool.false_or,Bool.and_eq_true] at h
 obtain⟨h,_⟩:=h
 split at h
 ·rename_i n id a b c hn hq
  exact⟨n,id,hn,⟨a,b,c,hq⟩,fun e=>by simp [e] at h⟩
 ·cases h
theorem Z64 {i j:Nat} {s:List V} {o oj:Oper} (hj:ops[j]? = some oj) (ha:isApp oj=true) (hl:Ia o=true) (hlt:lt.any (fun p=>p.1==j)=false) (hk:linked ms i j=false) (h:Jq E ops ms lt s0 base i s o=true) :
  ∃n,TV E ops base s0 o=some n/\∀k∈Di E s o,k=n:=by
 unfold Jq at h
 rw [List.all_eq_true] at h
 have h:=h j (by simpa using (Array.getElem?_eq_some_iff.1 hj).1)
 simp only [hj,ha,hl,hlt,hk,Bool.and_self,Bool.not_true,Bool.false_or,Bool.and_eq_true] at h
 obtain⟨_,h⟩:=h
 split at h
 ·rename_i n hn
  exact⟨n,hn,fun k hk=>by simpa using List.all_eq_true.1 h k hk⟩
 ·cases h
theorem Z6A {k:Nat} {o:Oper} {s:List V} {H H1:Heap} {v:V} (hc:Ia o=true) (h:ES call E ops k o ⟨s,H⟩=some (v,H1)) :
  H1=H/\∀H' k',DU (Di E s o) H H' -> ES call E ops k' o ⟨s,H'⟩=some (v,H'):=by
 have key:∀{k:Nat} {H H1:Heap},BH call E k H s o=some (v,H1)->H1=H/\∀H' k',DU (Di E s o) H H' -> BH call E k' H' s o=some (v,H'):=by
  intro k H H1 h
  obtain⟨dst,op,type,pos,after,guard⟩:=o
  unfold Ia at hc
  split at hc
  ·rename_i t a hop
   simp only at hop
   subst hop
   simp only [BH] at h ⊢
   obtain⟨h1,h2⟩:=sG h
   exact⟨h2,fun H' k' hs=>by rw [Z4v (S9 hs (by simp [Op.operands])),h1];rfl⟩
  ·cases hc
 unfold ES at *
 cases hg:o.guard with
 | none=>simp only [hg] at h ⊢;exact key h
 | some jw=>
  obtain⟨j,want⟩:=jw
  simp only [hg] at h ⊢
  cases hd:(ops[j]?).bind (·.dst) with
  | none=>simp [hd] at h
  | some d=>
   simp only [hd] at h ⊢
   cases hgd:JS (s.getD d .und) want with
   | none=>rw [hgd] at h;cases h
   | some r=>
    rw [hgd] at h
    cases r with
    | true=>simp only at h ⊢;exact key h
    | false=>
     simp only [Option.some.injEq,Prod.mk.injEq] at h ⊢
     exact⟨h.2.symm,fun H' k' _=>⟨h.1,trivial⟩⟩
theorem Zd6 {k:Nat} {H H1:Heap} {t u:TypeId} {x v:V} {id a b c:Nat} (h:Jl E k H t u (.Be id a b c) x=some (v,H1)):∀i,i≠id->H1[i]? = H[i]?:=by
 intro i hi
 unfold Jl at h
 split at h
 ·split at h
  ·split at h
   ·simp only at h
    split at h
    ·split at h
     ·split at h
      ·simp only [Option.some.injEq,Prod.mk.injEq] at h
       rw [<- h.2,List.getElem?_set_ne (Ne.symm hi)]
      ·cases h
     ·split at h
      ·simp only [Option.some.injEq,Prod.mk.injEq] at h
       rw [<- h.2,List.getElem?_set_ne (Ne.symm hi)]
      ·cases h
    ·cases h
   ·cases h
  ·cases h
 ·cases h
theorem Z68 {k:Nat} {o:Oper} {s:List V} {H H1:Heap} {v:V} {id:Nat} (hc:isApp o=true) (ha:∃a b c,addrOf E s o = .Be id a b c) (h:ES call E ops k o ⟨s,H⟩=some (v,H1)):∀i,i≠id->H1[i]? = H[i]?:=by
 have key:BH call E k H s o=some (v,H1)->∀i,i≠id->H1[i]? = H[i]?:=by
  intro h
  obtain⟨q1,q2,q3,ha⟩:=ha
  have hwa:∃a,JK o=some a:=by
   unfold addrOf at ha
   cases hw:JK o with
   | none=>rw [hw] at ha;cases ha
   | some a=>exact⟨a,rfl⟩
  obtain⟨wa,hwa⟩:=hwa
  have hae:ev E s wa = .Be id q1 q2 q3:=by
   unfold addrOf at ha
   rw [hwa] at ha
   exact ha
  rcases Y1 hwa with ⟨t,v',hop⟩|⟨c,x,hop,hcal,hargs⟩
  ·unfold isApp at hc
   rw [hop] at hc
   cases hc
  ·have hargs' : evs E s c.args=[ev E s wa,ev E s x]:=by unfold evs;rw [hargs];rfl
   unfold BH at h
   simp only [hop,hcal,hargs'] at h
   unfold Ns at h
   split at h
   ·rename_i h1 _;cases h1
   ·rename_i a y t' u' hb he1 he2
    simp only [List.cons.injEq,and_true] at he1
    obtain⟨rfl,rfl⟩:=he1
    rw [hae] at h
    exact Zd6 h
   ·simp_all
   ·rename_i h1;cases h1
   ·rename_i h1;cases h1
   ·cases h
 unfold ES at *
 cases hg:o.guard with
 | none=>simp only [hg] at h;exact key h
 | some jw=>
  obtain⟨j,want⟩:=jw
  simp only [hg] at h
  cases hd:(ops[j]?).bind (·.dst) with
  | none=>simp [hd] at h
  | some d=>
   simp only [hd] at h
   cases hgd:JS (s.getD d .und) want with
   | none=>rw [hgd] at h;cases h
   | some r=>
    rw [hgd] at h
    cases r with
    | true=>simp only at h;exact key h
    | false=>
     simp only [Option.some.injEq,Prod.mk.injEq] at h
     rw [h.2]
     exact fun i _=>rfl
theorem Zhc (hcalls:OA E call) (hm:∀i o,ops[i]? = some o->Bd E o = .a->i<m) {x y:Nat} {ox oy:Oper} (hx:ops[x]? = some ox) (hy:ops[y]? = some oy) (hxy:x≠y)
  (hpass:(WV E ops ox oy||(JA E ops lt x ox oy||JA E ops lt y oy ox))=true) (hlt:∀x t,(x,t)∈lt->∃ox,ops[x]? = some ox/\Qk E ops ox=some t) (hbit:(ms.getD y 0).testBit x=false) (hbit' : (ms.getD x 0).testBit y=false) {st st1 st2:St}
  (h1:Ht call E ops ms lt s0 base m x st=some st1) (h2:Ht call E ops ms lt s0 base m y st1=some st2) :
  ∃st1',Ht call E ops ms lt s0 base m y st=some st1' /\ Ht call E ops ms lt s0 base m x st1' = some st2:=by
 have hpure:=hcalls.pure
 have hfree:=hcalls.free
 have hap:ox.apart ops oy=true\/oy.apart ops ox=true:=by
  simp only [Bool.or_eq_true,WV,JA,Bool.and_eq_true] at hpass
  rcases hpass with h|h|h
  ·exact .inl h.2
  ·exact .inl h.1
  ·exact .inr h.1
 have hsp:(∀d,ox.dst=some d->d∉oy.looksAt ops)/\(∀d,ox.dst=some d->oy.dst≠some d)/\(∀d,oy.dst=some d->d∉ox.looksAt ops):=by
  rcases hap with h|h
  ·exact Oper.apart_spec h
  ·obtain⟨b1,b2,b3⟩:=Oper.apart_spec h
   grind
 obtain⟨a1,a2,a3⟩:=hsp
 obtain⟨s1,⟨l1,c1⟩,d1,vx,Hx,e1,rfl⟩:=(aC hx).1 h1
 obtain⟨s2,⟨l2,c2⟩,d2,vy,Hy,e2,rfl⟩:=(aC hy).1 h2
 obtain⟨s,H⟩:=st
 simp only at *
 rw [Z6a a1] at e2
 rw [Z4q a1] at l2
 have s2' : OM E ops ms lt s0 base m y s oy:=by unfold OM at *;rw [Yz a1,Z2J a1,Z4M a1] at s2;exact s2
 have s1' : OM E ops ms lt s0 base m x (setSlot s oy.dst vy) ox:=by unfold OM at *;rw [Yz a3,Z2J a3,Z4M a3];exact s1
 have keptx:Bd E ox = .a->base+x<H.length:=fun hc=>by
  grind
 have nox:Bd E ox = .a->base+x∉Di E s oy:=fun hc hin=>by
  rcases s2'.1 _ hin with h|⟨h,_⟩|⟨_,h⟩
  ·omega
  ·grind
  simp_all
 have noy:Bd E oy = .a->base+y∉Di E s ox:=fun hc hin=>by
  rcases s1.1 _ hin with h|⟨h,_⟩|⟨_,h⟩
  ·omega
  ·grind
  simp_all
 have seex:Bd E oy = .c->∀id∈Di E s ox,id<base+m:=fun hc id hid=>by
  rcases s1.1 id hid with h|⟨_,h⟩|⟨h,_⟩
  ·omega
  ·exfalso
   unfold Sm at h
   rw [List.all_eq_true] at h
   have:=h y (by grind)
   simp only [hy,hc,linked,hbit,hbit',decide_true,Bool.not_true,Bool.or_self,Bool.or_false,beq_iff_eq] at this
   exact hxy this.symm
  ·exact h
 have seey:Bd E ox = .c->∀id∈Di E s oy,id<base+m:=fun hc id hid=>by
  rcases s2'.1 id hid with h|⟨_,h⟩|⟨h,_⟩
  ·omega
  ·exfalso
   unfold Sm at h
   rw [List.all_eq_true] at h
   have:=h x (by simpa using (Array.getElem?_eq_some_iff.1 hx).1)
   simp only [hx,hc,linked,hbit,hbit',decide_true,Bool.not_true,Bool.or_self,Bool.or_false,beq_iff_eq] at this
   exact hxy this
  ·exact h
 have fin:∀(Hy' : Heap),OM E ops ms lt s0 base m y s oy->(Fz E ms lt s0 base y s H oy=true/\PZ E ops base m oy H)->(Bd E oy = .a->∃b,H[base+y]? = some b/\(b.live=false/\b.row=false))->ES call E ops (DJ E oy base y H) oy ⟨s,H⟩=some (vy,Hy') ->
   (Fz E ms lt s0 base x s Hy' ox=true/\PZ E ops base m ox Hy')->(Bd E ox = .a->∃b,Hy'[base+x]? = some b/\(b.live=false/\b.row=false))->ES call E ops (DJ E ox base x Hy') ox ⟨s,Hy'⟩=some (vx,Hy) ->
   ∃st1',Ht call E ops ms lt s0 base m y ⟨s,H⟩=some st1' /\ Ht call E ops ms lt s0 base m x st1' = some ⟨setSlot (setSlot s ox.dst vx) oy.dst vy,Hy⟩:=by
  intro Hy' g1 l3 g2 g3 l4 g4 g5
  refine⟨⟨setSlot s oy.dst vy,Hy'⟩,(aC hy).2 ⟨g1,l3,g2,vy,Hy',g3,rfl⟩,(aC hx).2 ⟨s1',⟨(by rw [Z4q a3];exact l4.1),l4.2⟩,g4,vx,Hy,?_,?_⟩⟩
  ·rw [Z6a a3];exact g5
  ·rw [Zdn a2]
 have notin:∀(z:Nat) (oz:Oper),ops[z]? = some oz->Bd E oz≠.w->∀t,(z,t)∉lt:=by
  intro z oz hz hc t hin
  obtain⟨o',ho',ht'⟩:=hlt z t hin
  rw [hz] at ho'
  cases ho'
  exact hc (bY ht').1
 cases hlx:JA E ops lt x ox oy with
 | true=>
  unfold JA at hlx
  simp only [Bool.and_eq_true,List.any_eq_true,beq_iff_eq] at hlx
  obtain⟨_,hny,⟨x',t⟩,hin,hx'⟩:=hlx
  simp only at hx'
  subst hx'
  obtain⟨ox',hox',htx⟩:=hlt _ t hin
  rw [hx] at hox'
  cases hox'
  have hnw:=Z6K hny
  obtain⟨b,n,hn,hnin,hnlt,rfl,f3⟩:=Z4V htx hin l1 e1
  have hjy:n∉Di E s oy:=Z5A hin hxy hny hbit hbit' hn l2
  have late1:∀Hy' : Heap,Hy'[n]? = H[n]? -> Fz E ms lt s0 base x' s Hy' ox=true:=fun Hy' hat=>by
   refine Z3B (fun p hp k he hk=>?_) l1
   grind
  have ncx:Hu E ox=true->False:=fun hc=>rY htx hc
  by_cases hyc:Bd E oy = .c
  ·obtain⟨idy,nbs,y1,rfl,y4⟩:=Yp hfree hyc e2
   have hl:base+m<=H.length:=by have:=(c2 (dM hyc)).1;rw [List.length_set] at this;exact this
   have hjid:n∉idy:=fun h=>hjy (y1 _ h)
   have g3:=y4 H (DJ E oy base y H) (by rw [List.length_set]) (Z6D hjy).symm
   have hat:(bump H idy++nbs)[n]? = H[n]?:=by
    rw [List.getElem?_append_left (by rw [bump_length];exact hnlt),Il]
    cases H[n]? with
    | none=>rfl
    | some b=>simp [hjid]
   refine fin _ s2' ⟨Gw (notin y oy hy hnw) l2,fun _=>⟨hl,fun h=>(eQ h hyc).elim⟩⟩ (fun hc=>by simp_all) g3 ⟨late1 _ hat,fun hc=>(ncx hc).elim⟩ (fun hc=>by simp_all) ?_
   rw [f3 _ _ hat (Yj nbs (PH _ _ _) (fun i hi=>by rw [bump_length];exact Nat.lt_of_lt_of_le (seex hyc i hi) hl))]
   congr 2
   rw [List.set_append_left _ _ (by rw [bump_length];exact hnlt)]
   congr 1
   have:=bH (ids:=idy) (nb:=none) (k' :=0) (H:=H) (b:=b) (k:=n) (fun h=>by cases h) hjid
   exact this.symm
  have hne:Bd E oy = .a->base+y≠n:=fun hc e=>noy hc (by rw [e];exact hnin)
  obtain⟨idy,nby,y1,y2,rfl,y4⟩:=SE hpure hnw hyc s2'.2.1 e2
  have hkH:DJ E oy base y (H.set n b)=DJ E oy base y H:=by unfold DJ;rw [List.length_set]
  have deady:Bd E oy = .a->∃b,H[base+y]? = some b/\(b.live=false/\b.row=false):=fun hc=>by
   grind
  have hyl:nby.isSome=true->DJ E oy base y H<H.length/\DJ E oy base y H≠n:=fun h=>by
   have hc:=y2 h
   obtain⟨b',hb',_⟩:=deady hc
   have:=(List.getElem?_eq_some_iff.1 hb').1
   unfold DJ
   grind
  have hjid:n∉idy:=fun h=>hjy (y1 _ h)
  have g3:=y4 H (DJ E oy base y H) (fun hc=>by rw [hkH]) (fun i hi=>by grind)
  have hat:=Z75 (H:=H) hyl hjid
  refine fin _ s2' ⟨Gw (notin y oy hy hnw) l2,JL hyc hnw⟩ deady g3 ⟨late1 _ hat,fun hc=>(ncx hc).elim⟩ (fun hc=>by simp_all) ?_
  rw [f3 _ _ hat (QX (fun h=>⟨(hyl h).1,by
    have hk:DJ E oy base y H=base+y:=by simp [DJ,y2 h]
    rw [hk]
    exact noy (y2 h)⟩)),hkH,bH hyl hjid]
 | false=>
 cases hly:JA E ops lt y oy ox with
 | true=>
  unfold JA at hly
  simp only [Bool.and_eq_true,List.any_eq_true,beq_iff_eq] at hly
  obtain⟨_,hnx,⟨y',t⟩,hin,hy'⟩:=hly
  simp only at hy'
  subst hy'
  obtain⟨oy',hoy',hty⟩:=hlt _ t hin
  rw [hy] at hoy'
  cases hoy'
  have hnw:=Z6K hnx
  obtain⟨b,n,hn,hnin,hnlt,rfl,f3⟩:=Z4V hty hin l2 e2
  have hjx:n∉Di E s ox:=Z5A hin (Ne.symm hxy) hnx hbit' hbit hn l1
  have late2:Hx[n]? = H[n]? -> Fz E ms lt s0 base y' s H oy=true:=fun hat=>by
   refine Z3B (fun p hp k he hk=>?_) l2
   grind
  have ncy:Hu E oy=true->False:=fun hc=>rY hty hc
  by_cases hxc:Bd E ox = .c
  ·obtain⟨idx,nbs,x1,rfl,x4⟩:=Yp hfree hxc e1
   have hl:base+m<=H.length:=(c1 (dM hxc)).1
   have hnl:n<H.length:=Nat.lt_of_lt_of_le (seey hxc n hnin) hl
   have hjid:n∉idx:=fun h=>hjx (x1 _ h)
   have hat:(bump H idx++nbs)[n]? = H[n]?:=by
    rw [List.getElem?_append_left (by rw [bump_length];exact hnl),Il]
    cases H[n]? with
    | none=>rfl
    | some b=>simp [hjid]
   refine fin _ s2' ⟨late2 hat,fun hc=>(ncy hc).elim⟩ (fun hc=>by rw [(bY hty).1] at hc;cases hc) (f3 _ H hat.symm (Yj nbs (PH _ _ _) (fun i hi=>by rw [bump_length];exact Nat.lt_of_lt_of_le (seey hxc i hi) hl)).symm)
    ⟨Gw (notin x ox hx hnw) l1,fun _=>⟨by grind,fun h=>(eQ h hxc).elim⟩⟩ (fun hc=>by simp_all) ?_
   rw [x4 _ _ (by rw [List.length_set]) (Z6D hjx)]
   congr 2
   rw [List.set_append_left _ _ (by rw [bump_length];exact hnl)]
   congr 1
   have:=bH (ids:=idx) (nb:=none) (k' :=0) (H:=H) (b:=b) (k:=n) (fun h=>by cases h) hjid
   exact this
  obtain⟨idx,nbx,x1,x2,rfl,x4⟩:=SE hpure hnw hxc s1.2.1 e1
  have hne:Bd E ox = .a->base+x≠n:=fun hc e=>nox hc (by rw [e];exact hnin)
  have hxl:nbx.isSome=true->DJ E ox base x H<H.length/\DJ E ox base x H≠n:=fun h=>by
   have hc:=x2 h
   have:=keptx hc
   unfold DJ
   grind
  have hjid:n∉idx:=fun h=>hjx (x1 _ h)
  have hat:=Z75 (H:=H) hxl hjid
  have hkS:DJ E ox base x (H.set n b)=DJ E ox base x H:=by unfold DJ;rw [List.length_set]
  have hsy:DU (Di E s oy) (eff idx nbx (DJ E ox base x H) H) H:=(QX (fun h=>⟨(hxl h).1,by
   have hk:DJ E ox base x H=base+x:=by simp [DJ,x2 h]
   grind⟩)).symm
  refine fin _ s2' ⟨late2 hat,fun hc=>(ncy hc).elim⟩ (fun hc=>by simp_all) (f3 _ H hat.symm hsy) ⟨Gw (notin x ox hx hnw) l1,JL hxc hnw⟩ (fun hc=>?_) ?_
  ·grind
  ·rw [x4 _ _ (fun hc=>by rw [hkS]) (fun i hi=>by rw [List.getElem?_set_ne (fun e=>hjx (by rw [e];exact hi))]),hkS,bH hxl hjid]
 | false=>
 rw [hlx,hly,Bool.or_false,Bool.or_false] at hpass
 unfold WV at hpass
 simp only [Bool.and_eq_true] at hpass
 have hcomp:=hpass.1
 simp only [Bool.or_eq_true,Bool.and_eq_true] at hcomp
 have norow:∀(z:Nat) (oz:Oper),ops[z]? = some oz->H5 E oz=true->∀t,(z,t)∉lt:=by
  intro z oz hz hc t hin
  obtain⟨o',ho',ht'⟩:=hlt z t hin
  rw [hz] at ho'
  cases ho'
  exact rY ht' (rE hc)
 have nolt:lt.any (fun p=>p.1==x)=false\/isApp ox=false\/Ia oy=false:=by
  cases h1:Ia oy with
  | false=>exact .inr (.inr rfl)
  | true=>
   refine .inl ?_
   have hn:needs E oy=true:=Z3V h1
   have:JA E ops lt x ox oy=false:=hlx
   unfold JA at this
   rw [hpass.2,hn,Bool.true_and,Bool.true_and] at this
   exact this
 have nolt' : lt.any (fun p=>p.1==y)=false\/isApp oy=false\/Ia ox=false:=by
  cases h1:Ia ox with
  | false=>exact .inr (.inr rfl)
  | true=>
   refine .inl ?_
   have hn:needs E ox=true:=Z3V h1
   have:JA E ops lt y oy ox=false:=hly
   unfold JA at this
   rw [ZhR hpass.2,hn,Bool.true_and,Bool.true_and] at this
   exact this
 have hxs:x<ops.size:=(Array.getElem?_eq_some_iff.1 hx).1
 have hys:y<ops.size:=(Array.getElem?_eq_some_iff.1 hy).1
 rcases hcomp with (hcomp|⟨hrx,hay⟩|⟨hry,hax⟩)|⟨hpx,hldy⟩|⟨hpy,hldx⟩
 rotate_left
 ·have hya:=Z7l (E:=E) hay
  have hny:Bd E oy≠.w:=by rw [hya];simp
  have hnc:Bd E oy≠.c:=by rw [hya];simp
  have hrw:=(WW hrx).1
  have hk:∀H',DJ E oy base y H' = base+y:=fun H' =>by simp [DJ,hya]
  obtain⟨hl,hal⟩:=c1 (rE hrx)
  obtain⟨b0,hb0,hr0⟩:=Zmw hy hay (hal hrx)
  have hlt0:=(List.getElem?_eq_some_iff.1 hb0).1
  obtain⟨r1,r2⟩:=rH hcalls.row hrx e1 hb0 hr0
  have d2' : Bd E oy = .a->∃b,H[base+y]? = some b/\(b.live=false/\b.row=false):=fun hc=>by
   obtain⟨b,hb,hd⟩:=d2 hc
   rw [r1] at hb
   cases hb
   exact⟨b0,hb0,hd⟩
  rw [hk] at e2
  rcases Z6x hay e2 with ⟨b,hbr,rfl,f⟩|⟨rfl,f⟩
  ·have hp:place H (base+y) b=H.set (base+y) b:=by unfold place;rw [if_pos hlt0]
   have hp' : place Hx (base+y) b=Hx.set (base+y) b:=by unfold place;rw [if_pos (List.getElem?_eq_some_iff.1 r1).1]
   refine fin (H.set (base+y) b) s2' ⟨Gw (notin y oy hy hny) l2,JL hnc hny⟩ d2' (by rw [hk,f,hp]) ⟨Gw (norow x ox hx hrx) l1,fun _=>⟨by rw [List.length_set];exact hl,fun _=>Z5R hbr (hal hrx)⟩⟩ (fun hc=>by rw [hrw] at hc;cases hc) ?_
   rw [hp']
   exact r2 b _ hbr
  ·exact fin H s2' ⟨Gw (notin y oy hy hny) l2,JL hnc hny⟩ d2' (by rw [hk];exact f H) ⟨l1,c1⟩ (fun hc=>by rw [hrw] at hc;cases hc) e1
 ·have hxa:=Z7l (E:=E) hax
  have hnx:Bd E ox≠.w:=by rw [hxa];simp
  have hnc:Bd E ox≠.c:=by rw [hxa];simp
  have hrw:=(WW hry).1
  have hk:∀H',DJ E ox base x H' = base+x:=fun H' =>by simp [DJ,hxa]
  obtain⟨bd,hbd,hdl,hdr⟩:=d1 hxa
  have hlt0:=(List.getElem?_eq_some_iff.1 hbd).1
  rw [hk] at e1
  rcases Z6x hax e1 with ⟨b,hbr,rfl,f⟩|⟨rfl,f⟩
  ·have hp:place H (base+x) b=H.set (base+x) b:=by unfold place;rw [if_pos hlt0]
   rw [hp] at e2 c2
   obtain⟨hl,hal⟩:=c2 (rE hry)
   rw [List.length_set] at hl
   have hback:(H.set (base+x) b).set (base+x) bd=H:=by
    rw [List.set_set]
    apply List.ext_getElem?
    intro i
    rw [List.getElem?_set]
    grind
   obtain⟨r1,r2⟩:=rH hcalls.row hry e2 (List.getElem?_set_self hlt0) hbr
   have hlty:=(List.getElem?_eq_some_iff.1 r1).1
   have r3:=r2 bd (DJ E oy base y H) hdr
   rw [hback] at r3
   have hal' :=Z5R (n:=base+x) hdr (hal hry)
   rw [hback] at hal'
   refine fin (Hy.set (base+x) bd) s2' ⟨Gw (norow y oy hy hry) l2,fun _=>⟨hl,fun _=>hal'⟩⟩ (fun hc=>by rw [hrw] at hc;cases hc) r3 ⟨Gw (notin x ox hx hnx) l1,JL hnc hnx⟩ (fun _=>⟨bd,List.getElem?_set_self hlty,hdl,hdr⟩) ?_
   rw [hk,f]
   have hq:place (Hy.set (base+x) bd) (base+x) b=Hy:=by
    unfold place
    rw [if_pos (by rw [List.length_set];exact hlty),List.set_set]
    apply List.ext_getElem?
    intro i
    rw [List.getElem?_set]
    grind
   rw [hq]
  ·obtain⟨r1,r2⟩:=rH hcalls.row hry e2 hbd hdr
   exact fin Hy s2' ⟨l2,c2⟩ (fun hc=>by rw [hrw] at hc;cases hc) e2 ⟨Gw (notin x ox hx hnx) l1,JL hnc hnx⟩ (fun _=>⟨bd,r1,hdl,hdr⟩) (by rw [hk];exact f Hy)
 ·have hln:=uC (E:=E) hldy
  have hw:=Z6B (E:=E) hpx
  have hlt1:lt.any (fun p=>p.1==x)=false:=by
   rcases nolt with h|h|h
   ·exact h
   ·rw [hpx] at h;cases h
   ·rw [hldy] at h;cases h
  obtain⟨n,id,hn1,hn2,hn3⟩:=Z5i hy hpx hldy hlt1 (by unfold linked;rw [hbit,hbit'];rfl) s1.2.2
  obtain⟨n',hn1',hn4⟩:=Z64 hx hpx hldy hlt1 (by unfold linked;rw [hbit,hbit'];rfl) s2'.2.2
  rw [hn1] at hn1'
  cases hn1'
  obtain⟨q1,q2⟩:=Z6A hldy e2
  subst q1
  have hsim:DU (Di E s oy) Hy H:=fun i hi=>by
   rw [Z68 hpx hn2 e1 i (by rw [hn4 i hi];exact hn3)]
  refine fin H s2' ⟨Gw (notin y oy hy (by rw [hln];simp)) l2,JL (by rw [hln];simp) (by rw [hln];simp)⟩ (fun hc=>by rw [hln] at hc;cases hc) (q2 _ _ hsim) ⟨l1,c1⟩ (fun hc=>by rw [hw] at hc;cases hc) e1
 ·have hln:=uC (E:=E) hldx
  have hw:=Z6B (E:=E) hpy
  have hlt1:lt.any (fun p=>p.1==y)=false:=by
   rcases nolt' with h|h|h
   ·exact h
   ·rw [hpy] at h;cases h
   ·rw [hldx] at h;cases h
  obtain⟨n,id,hn1,hn2,hn3⟩:=Z5i hx hpy hldx hlt1 (by unfold linked;rw [hbit,hbit'];rfl) s2'.2.2
  obtain⟨n',hn1',hn4⟩:=Z64 hy hpy hldx hlt1 (by unfold linked;rw [hbit,hbit'];rfl) s1.2.2
  rw [hn1] at hn1'
  cases hn1'
  obtain⟨q1,q2⟩:=Z6A hldx e1
  subst q1
  have hsim:DU (Di E s ox) Hx Hy:=fun i hi=>by
   rw [Z68 hpy hn2 e2 i (by rw [hn4 i hi];exact hn3)]
  exact fin Hy s2' ⟨l2,c2⟩ (fun hc=>by rw [hw] at hc;cases hc) e2 ⟨Gw (notin x ox hx (by rw [hln];simp)) l1,JL (by rw [hln];simp) (by rw [hln];simp)⟩ (fun hc=>by rw [hln] at hc;cases hc) (q2 _ _ hsim)
 by_cases hcx:Bd E ox = .s
 ·obtain⟨f1,f2⟩:=Z71 hcx e1
  subst f1
  exact fin Hy s2' ⟨l2,c2⟩ d2 e2 ⟨Gw (notin x ox hx (by simp_all)) l1,JL (by rw [hcx];simp) (by rw [hcx];simp)⟩ (fun hc=>by simp_all) (f2 _ _)
 by_cases hcy:Bd E oy = .s
 ·obtain⟨f1,f2⟩:=Z71 hcy e2
  subst f1
  exact fin H s2' ⟨Gw (notin y oy hy (by simp_all)) l2,JL (by rw [hcy];simp) (by rw [hcy];simp)⟩ (fun hc=>by simp_all) (f2 _ _) ⟨l1,c1⟩ d1 e1
 have hwx:Bd E ox≠.w:=fun hw=>by rw [hw] at hcomp;cases hh:Bd E oy<;>simp_all [uY]
 have hwy:Bd E oy≠.w:=fun hw=>by rw [hw] at hcomp;cases hh:Bd E ox<;>simp_all [uY]
 by_cases hxc:Bd E ox = .c
 ·have hyc:Bd E oy≠.c:=fun hc=>by rw [hxc,hc] at hcomp;cases hcomp
  obtain⟨idx,nbs,x1,rfl,x4⟩:=Yp hfree hxc e1
  obtain⟨idy,nby,y1,y2,rfl,y4⟩:=SE hpure hwy hyc s2'.2.1 e2
  have hl:base+m<=H.length:=(c1 (dM hxc)).1
  have hry:∀i∈Di E s oy,i<H.length:=fun i hi=>Nat.lt_of_lt_of_le (seey hxc i hi) hl
  have kyl:nby.isSome=true->base+y<H.length:=fun h=>by grind
  have g3:=y4 H (DJ E oy base y H) (fun hc=>by simp [DJ,hc]) (Yj nbs (PH _ _ _) (fun i hi=>by rw [bump_length];exact hry i hi)).symm
  have hke:∀H' : Heap,eff idy nby (DJ E oy base y H')=eff idy nby (base+y):=fun H' =>by
   cases hnb:nby with
   | none=>rfl
   | some b=>simp [DJ,y2 (by rw [hnb];rfl)]
  rw [hke] at g3
  have kyn:nby.isSome=true->base+y∉Di E s ox:=fun h=>noy (y2 h)
  have hlen:(eff idy nby (base+y) H).length=H.length:=Ro kyl
  have dy:Bd E oy = .a->∃b,H[base+y]? = some b/\(b.live=false/\b.row=false):=fun hc=>by
   obtain⟨b,hb,hd⟩:=d2 hc
   have hlt:base+y<H.length:=by have:=hm y oy hy hc;omega
   rw [List.getElem?_append_left (by rw [bump_length];exact hlt),Il] at hb
   grind
  refine fin _ s2' ⟨Gw (notin y oy hy hwy) l2,JL hyc hwy⟩ dy g3 ⟨Gw (notin x ox hx hwx) l1,fun _=>⟨by rw [hlen];exact hl,fun h=>(eQ h hxc).elim⟩⟩ (fun hc=>by simp_all) ?_
  rw [x4 _ _ hlen (QX (fun h=>⟨kyl h,kyn h⟩)),hke]
  congr 2
  rw [Z3W nbs (fun i hi=>by rw [bump_length];exact hry i (y1 i hi)) (fun h=>by rw [bump_length];exact kyl h)]
  congr 1
  have:=rO (Ea:=idx) (ids2:=idy) (nb1:=none) (nb2:=nby) (k1:=0) (k2:=base+y) (H:=H) (fun h=>by cases h) (fun h=>⟨kyl h,fun hin=>kyn h (x1 _ hin)⟩) (fun h=>by cases h)
  exact this
 by_cases hyc:Bd E oy = .c
 ·obtain⟨idx,nbx,x1,x2,rfl,x4⟩:=SE hpure hwx hxc s1.2.1 e1
  obtain⟨idy,nbs,y1,rfl,y4⟩:=Yp hfree hyc e2
  have kxl:nbx.isSome=true->base+x<H.length:=fun h=>keptx (x2 h)
  have hke:∀H' : Heap,eff idx nbx (DJ E ox base x H')=eff idx nbx (base+x):=fun H' =>by
   cases hnb:nbx with
   | none=>rfl
   | some b=>simp [DJ,x2 (by rw [hnb];rfl)]
  rw [hke] at c2 y4
  have hlen:(eff idx nbx (base+x) H).length=H.length:=Ro kxl
  have hl:base+m<=H.length:=by have:=(c2 (dM hyc)).1;rw [hlen] at this;exact this
  have hrx:∀i∈Di E s ox,i<H.length:=fun i hi=>Nat.lt_of_lt_of_le (seex hyc i hi) hl
  have g3:=y4 H (DJ E oy base y H) hlen.symm (QX (fun h=>⟨kxl h,nox (x2 h)⟩)).symm
  refine fin _ s2' ⟨Gw (notin y oy hy hwy) l2,fun _=>⟨hl,fun h=>(eQ h hyc).elim⟩⟩ (fun hc=>by simp_all) g3 ⟨Gw (notin x ox hx hwx) l1,JL hxc hwx⟩ (fun hc=>?_) ?_
  ·obtain⟨b,hb,hd⟩:=d1 hc
   have hlt:=keptx hc
   rw [List.getElem?_append_left (by rw [bump_length];exact hlt),Il,hb]
   grind
  ·rw [x4 _ (DJ E ox base x (bump H idy++nbs)) (fun hc=>by simp [DJ,hc]) (Yj nbs (PH _ _ _) (fun i hi=>by rw [bump_length];exact hrx i hi)),hke,hke]
   congr 2
   rw [Z3W nbs (fun i hi=>by rw [bump_length];exact hrx i (x1 i hi)) (fun h=>by rw [bump_length];exact kxl h)]
   congr 1
   have:=rO (Ea:=idx) (ids2:=idy) (nb1:=nbx) (nb2:=none) (k1:=base+x) (k2:=0) (H:=H) (fun h=>⟨kxl h,fun hin=>nox (x2 h) (y1 _ hin)⟩) (fun h=>by cases h) (fun _ h=>by cases h)
   exact this
 obtain⟨idx,nbx,x1,x2,rfl,x4⟩:=SE hpure hwx hxc s1.2.1 e1
 obtain⟨idy,nby,y1,y2,rfl,y4⟩:=SE hpure hwy hyc s2'.2.1 e2
 have kx:nbx.isSome=true->DJ E ox base x H=base+x:=fun h=>by simp [DJ,x2 h]
 have hxlt:nbx.isSome=true->DJ E ox base x H<H.length:=fun h=>by grind
 have hlen:=Ro (ids:=idx) hxlt
 have ky:nby.isSome=true->∀H',DJ E oy base y H' = base+y:=fun h H' =>by simp [DJ,y2 h]
 have simx:DU (Di E s oy) (eff idx nbx (DJ E ox base x H) H) H:=(QX (fun h=>⟨hxlt h,by grind⟩)).symm
 have deady:Bd E oy = .a->∃b,H[base+y]? = some b/\(b.live=false/\b.row=false):=fun hc=>
  (Z5I (fun h=>⟨hxlt h,by rw [kx h];omega⟩)).1 (d2 hc)
 have hylt:Bd E oy = .a->base+y<H.length:=fun hc=>by
  grind
 have g3:=y4 H (DJ E oy base y H) (fun hc=>by simp [DJ,hc]) simx
 have hylt' : nby.isSome=true->DJ E oy base y H<H.length:=fun h=>by grind
 refine fin _ s2' ⟨Gw (notin y oy hy hwy) l2,JL hyc hwy⟩ deady g3 ⟨Gw (notin x ox hx hwx) l1,JL hxc hwx⟩ (fun hc=>(Z5I (fun h=>⟨hylt' h,by rw [ky h];omega⟩)).2 (d1 hc)) ?_
 have simy:DU (Di E s ox) H (eff idy nby (DJ E oy base y H) H):=QX (fun h=>⟨hylt' h,by grind⟩)
 have g5:=x4 _ (DJ E ox base x (eff idy nby (DJ E oy base y H) H)) (fun hc=>by simp [DJ,hc]) simy
 rw [g5]
 have hk1:nbx.isSome=true->DJ E ox base x (eff idy nby (DJ E oy base y H) H)=base+x:=fun h=>by simp [DJ,x2 h]
 have hkx:eff idx nbx (DJ E ox base x (eff idy nby (DJ E oy base y H) H)) (eff idy nby (DJ E oy base y H) H)=eff idx nbx (DJ E ox base x H) (eff idy nby (DJ E oy base y H) H):=by
  cases nbx with
  | none=>rfl
  | some b=>rw [hk1 rfl,kx rfl]
 have hky:eff idy nby (DJ E oy base y (eff idx nbx (DJ E ox base x H) H)) (eff idx nbx (DJ E ox base x H) H)=eff idy nby (DJ E oy base y H) (eff idx nbx (DJ E ox base x H) H):=by
  cases nby with
  | none=>rfl
  | some b=>rw [ky rfl,ky rfl]
 rw [hkx,hky]
 congr 2
 exact rO (fun h=>⟨hxlt h,by grind⟩) (fun h=>⟨hylt' h,by grind⟩) (fun h1 h2=>by grind)
end
end Go.Proofs.YtddbklgndkpipaaGreatDoor.Le
namespace Go.Proofs.YtddbklgndkpipaaGreatDoor.Le
open Go.RowKit (Below)
theorem ZiM (acc:List Nat) (j:Nat):∀(es:List Edge) (m:Nat),(es.foldl (fun m e=>if Region.binds .any e then m ||| (1 <<< e.on) ||| acc.getD e.on 0 else m) m).testBit j=true↔
  m.testBit j=true\/∃e∈es,Region.binds .any e=true/\(j=e.on\/(acc.getD e.on 0).testBit j=true):=by
 intro es
 induction es with
 | nil=>intro m;simp
 | cons e es ih=>
  intro m
  rw [List.foldl_cons,ih]
  by_cases hb:Region.binds .any e=true
  ·simp only [hb,if_true,Nat.testBit_or,Bool.or_eq_true,Nat.one_shiftLeft,Nat.testBit_two_pow,decide_eq_true_eq,List.mem_cons,exists_eq_or_imp,true_and]
   grind
  simp_all
theorem Zh9 (acc:List Nat) (o:Oper) (j:Nat):(Si acc o).testBit j=true↔∃e∈o.after,Region.binds .any e=true/\(j=e.on\/(acc.getD e.on 0).testBit j=true):=by
 unfold Si
 rw [ZiM]
 simp
theorem Z3j:∀(os:List Oper) (acc:List Nat) (i:Nat),i<acc.length->(F6 acc os)[i]? = acc[i]?:=by
 intro os
 induction os with
 | nil=>intro acc i hi;rfl
 | cons o os ih=>
  intro acc i hi
  simp only [F6]
  grind
theorem Zk6:∀(os:List Oper) (acc:List Nat) (i:Nat) (o:Oper),os[i]? = some o ->
  ∃acc',(F6 acc os)[acc.length+i]? = some (Si acc' o)/\acc'.length=acc.length+i/\∀j,j<acc'.length->(F6 acc os)[j]? = acc'[j]?:=by
 intro os
 induction os with
 | nil=>intro acc i o h;simp at h
 | cons p os ih=>
  intro acc i o h
  cases i with
  | zero=>
   simp at h
   subst h
   refine⟨acc,?_,rfl,fun j hj=>?_⟩
   ·simp only [F6]
    rw [Z3j _ _ _ (by simp)]
    simp
   ·simp only [F6]
    rw [Z3j _ _ _ (by simp;omega),List.getElem?_append_left hj]
  | succ i=>
   simp at h
   obtain⟨acc',h1,h2,h3⟩:=ih (acc++[Si acc p]) i o h
   refine⟨acc',?_,by rw [h2];simp;omega,h3⟩
   simp only [F6]
   grind
section
variable {E:Env} {ops:Array Oper}
structure Z5u (E:Env) (ops:Array Oper):Prop where
 low:∀(i:Nat) (o:Oper),ops[i]? = some o->∀e∈o.after,Region.binds .any e=true->e.on<i
 bit:∀(i:Nat) (o:Oper),ops[i]? = some o->∀j,((F6 [] ops.toList).getD i 0).testBit j=true↔∃e∈o.after,Region.binds .any e=true/\(j=e.on\/((F6 [] ops.toList).getD e.on 0).testBit j=true)
 lt:∀(i j:Nat),i<ops.size->((F6 [] ops.toList).getD i 0).testBit j=true->j<i
 pass:∀(x y:Nat) (ox oy:Oper),ops[x]? = some ox->ops[y]? = some oy->x<y->((F6 [] ops.toList).getD y 0).testBit x=true\/(WV E ops ox oy||(JA E ops (OT E ops) x ox oy||JA E ops (OT E ops) y oy ox))=true
theorem Zdb (h:dA E ops=true):Z5u E ops:=by
 unfold dA at h
 simp only [List.all_eq_true,List.mem_range] at h
 have hlow:∀(i:Nat) (o:Oper),ops[i]? = some o->∀e∈o.after,Region.binds .any e=true->e.on<i:=by
  intro i o ho e he
  have:=h i (Array.getElem?_eq_some_iff.1 ho).1
  simp only [ho,Bool.and_eq_true,Array.all_eq_true_iff_forall_mem,Bool.or_eq_true,Bool.not_eq_true',decide_eq_true_eq] at this
  intro hb
  rcases this.1 e he with hh|hh
  ·rw [hb] at hh;cases hh
  ·exact hh
 have hbit:∀(i:Nat) (o:Oper),ops[i]? = some o->∀j,((F6 [] ops.toList).getD i 0).testBit j=true↔∃e∈o.after,Region.binds .any e=true/\(j=e.on\/((F6 [] ops.toList).getD e.on 0).testBit j=true):=by
  intro i o ho j
  obtain⟨acc',h1,h2,h3⟩:=Zk6 ops.toList [] i o (by simpa using ho)
  simp only [List.length_nil,Nat.zero_add] at h1 h2
  have hi:(F6 [] ops.toList).getD i 0=Si acc' o:=by simp [List.getD,h1]
  rw [hi,Zh9]
  constructor
  ·grind
  ·grind
 refine⟨hlow,hbit,?_,?_⟩
 ·intro i
  induction i using Nat.strongRecOn with
  | _ i ih=>
   intro j hi hj
   have ho:ops[i]? = some ops[i]:=by simp [hi]
   grind
 grind
end
section
variable {call:Df} {E:Env} {ops:Array Oper} {ms:List Nat} {lt:List (Nat×(Nat⊕Nat))} {s0:List V} {base m:Nat}
theorem ZdL {i:Nat} {r:St}:∀(M1 M2:List Nat) (st:St),(∀y∈M1,∀st st1 st2,Ht call E ops ms lt s0 base m y st=some st1->Ht call E ops ms lt s0 base m i st1=some st2 ->
      ∃st1',Ht call E ops ms lt s0 base m i st=some st1' /\ Ht call E ops ms lt s0 base m y st1' = some st2) ->
  KN call E ops ms lt s0 base m (M1++i::M2) st=some r->∃st1,Ht call E ops ms lt s0 base m i st=some st1/\KN call E ops ms lt s0 base m (M1++M2) st1=some r:=by
 intro M1
 induction M1 with
 | nil=>
  intro M2 st _ h
  simp only [List.nil_append,KN] at h
  grind
 | cons y M1 ih=>
  intro M2 st hsw h
  simp only [List.cons_append,KN] at h
  cases h1:Ht call E ops ms lt s0 base m y st with
  | none=>simp [h1] at h
  | some sa=>
   simp only [h1] at h
   obtain⟨sb,h2,h3⟩:=ih M2 sa (fun z hz=>hsw z (List.mem_cons_of_mem _ hz)) h
   obtain⟨sc,h4,h5⟩:=hsw y (by simp) st sa sb h1 h2
   exact⟨sc,h4,by simp only [List.cons_append,KN,h5];exact h3⟩
theorem ZkJ {B:Nat} {w0:Start} {σ:Sg} {P:Program} {st st' : St} {a:Act} {w:World} (hE:Ci E) (hP:E.P=P) (hcall:Jo P E B w0 call) {i:Nat} (h:Ez E B w0 σ st a w) (hs:Ht call E ops ms lt s0 base m i st=some st')
  {K:Act->World->Prop} {Q:Exit->Act->World->Prop} (hn:∀a' w' σ',Ez E B w0 σ' st' a' w' -> Ext σ w σ' w' -> K a' w'):wpOp P ops Q i K a w:=by
 have hat:∃k,FD st.H k=true/\L6 call E ops k i st=some st' :=by
  unfold Ht at hs
  cases ho:ops[i]? with
  | none=>
   simp only [ho] at hs
   exact⟨st.H.length,Vh _,by unfold L6;simp only [ho];exact hs⟩
  | some o=>
   simp only [ho] at hs
   split at hs
   ·split at hs
    ·split at hs
     ·rename_i b hb
      split at hs
      ·cases hs
      ·rename_i hl
       exact⟨base+i,by unfold FD;simp only [hb];simpa using hl,hs⟩
     ·cases hs
    ·exact⟨st.H.length,Vh _,hs⟩
   ·cases hs
 obtain⟨k,hk,hat⟩:=hat
 exact Z4F hE hP hcall hk h hat hn
theorem ZlG {B:Nat} {w0:Start} {P:Program} {r:St} (hE:Ci E) (hP:E.P=P) (hcall:Jo P E B w0 call) (hpure:OA E call) (hf:Z5u E ops) (hm:∀(i:Nat) (o:Oper),ops[i]? = some o->Bd E o = .a->i<m)
  {Q:Exit->Act->World->Prop}:∀(fuel:Nat) (M:List Nat) (listed:Array Bool) (st:St) (σ:Sg) (a:Act) (w:World),M.length<=fuel->listed.size=ops.size ->
  (∀j,j∈M↔listed.getD j true=false)->M.Pairwise (· < ·)->(∀k j,listed.getD k false=true->((F6 [] ops.toList).getD k 0).testBit j=true->listed.getD j false=true) ->
  KN call E ops (F6 [] ops.toList) (OT E ops) s0 base m M st=some r->Ez E B w0 σ st a w->(∀a' w' σ',Ez E B w0 σ' r a' w' -> Ext σ w σ' w' -> Q .normal a' w')->wpAny P .any ops Q fuel listed a w:=by
 intro fuel
 induction fuel with
 | zero=>
  intro M listed st σ a w hl hsz hM hsort hdown hs hr hn
  have hnil:M=[]:=List.eq_nil_of_length_eq_zero (by omega)
  subst hnil
  simp only [KN,Option.some.injEq] at hs
  subst hs
  refine⟨?_,hn a w σ hr (Ext.refl σ w)⟩
  cases hrd:Region.ready .any ops listed with
  | nil=>rfl
  | cons i rest=>
   have hi:i∈Region.ready .any ops listed:=by rw [hrd];simp
   have:=(hM i).2 (mem_ready.1 hi).1
   cases this
 | succ fuel ih=>
  intro M listed st σ a w hl hsz hM hsort hdown hs hr hn
  have hlist:∀j,j<ops.size->j∉M->listed.getD j false=true:=by
   intro j hj hn
   have:¬listed.getD j true=false:=fun h=>hn ((hM j).2 h)
   have hjl:j<listed.size:=by omega
   simp [hjl] at this ⊢
   exact this
  refine⟨fun hready=>?_,fun i hi=>?_⟩
  ·
   cases M with
   | nil=>
    simp only [KN,Option.some.injEq] at hs
    subst hs
    exact hn a w σ hr (Ext.refl σ w)
   | cons i rest=>
    exfalso
    have hun:=(hM i).1 (by simp)
    have hilt:i<ops.size:=by
     rcases Nat.lt_or_ge i listed.size with h|h
     ·omega
     ·simp [Array.getElem?_eq_none h] at hun
    have ho:ops[i]? = some ops[i]:=by simp [hilt]
    have:i∈Region.ready .any ops listed:=mem_ready.2 ⟨hun,_,ho,fun e he hb=>by
     have hlt:=hf.low i _ ho e he hb
     refine hlist e.on (by omega) (fun hin=>?_)
     rcases List.mem_cons.1 hin with h|h
     ·omega
     ·have:=(List.pairwise_cons.1 hsort).1 _ h
      omega⟩
    grind
  ·obtain⟨hun,oi,hoi,hall⟩:=mem_ready.1 hi
   have hin:=(hM i).2 hun
   obtain⟨M1,M2,rfl⟩:=List.append_of_mem hin
   have hilt:i<ops.size:=(Array.getElem?_eq_some_iff.1 hoi).1
   have hM1:∀y∈M1,y<i:=fun y hy=>(List.pairwise_append.1 hsort).2.2 y hy i (by simp)
   have hmask:∀j,((F6 [] ops.toList).getD i 0).testBit j=true->listed.getD j false=true:=by
    intro j hj
    obtain⟨e,he,hb,hh⟩:=(hf.bit i oi hoi j).1 hj
    rcases hh with hh|hh
    ·grind
    ·grind
   have hunl:∀y,listed.getD y true=false->listed.getD y false=false:=by
    intro y hy
    rcases Nat.lt_or_ge y listed.size with h|h
    ·simp [h] at hy ⊢;exact hy
    ·simp [Array.getElem?_eq_none h] at hy
   obtain⟨st1,h1,h2⟩:=ZdL M1 M2 st (fun y hy sa sb sc hsa hsb=>by
    have hyun:listed.getD y true=false:=(hM y).1 (by simp [hy])
    have hylt:y<ops.size:=by have:=hM1 y hy;omega
    have hoy:ops[y]? = some ops[y]:=by simp [hylt]
    have hbit:((F6 [] ops.toList).getD i 0).testBit y=false:=by
     cases hb:((F6 [] ops.toList).getD i 0).testBit y with
     | false=>rfl
     | true=>have:=hmask y hb;rw [hunl y hyun] at this;cases this
    have hbit' : ((F6 [] ops.toList).getD y 0).testBit i=false:=by
     cases hb:((F6 [] ops.toList).getD y 0).testBit i with
     | false=>rfl
     | true=>have:=hf.lt y i hylt hb;have:=hM1 y hy;omega
    have hp:=(hf.pass y i _ oi hoy hoi (hM1 y hy)).resolve_left (by rw [hbit];simp)
    exact Zhc hpure hm hoy hoi (by have:=hM1 y hy;omega) hp (fun x t h=>Zjo h) hbit hbit' hsa hsb) hs
   refine ZkJ hE hP hcall hr h1 (fun a1 w1 σ1 hr1 he1=>?_)
   have hget:∀j d,(listed.setIfInBounds i true).getD j d=if j=i then true else listed.getD j d:=by
    intro j d
    by_cases hji:j=i
    ·subst hji
     have:j<listed.size:=by omega
     simp [this]
    ·rw [if_neg hji,getD_set_ne d (fun e=>hji e.symm)]
   have hnot:i∉M1++M2:=by
    intro h
    rcases List.mem_append.1 h with h|h
    ·have:=hM1 i h;omega
    ·have:=(List.pairwise_cons.1 (List.pairwise_append.1 hsort).2.1).1 i h;omega
   refine ih (M1++M2) (listed.setIfInBounds i true) st1 σ1 a1 w1 (by simp at hl ⊢;omega) (by simpa using hsz) (fun j=>?_) ?_ (fun k j hk hj=>?_) h2 hr1 (fun a' w' σ' hr' he' =>hn a' w' σ' hr' (he1.trans he'))
   ·rw [hget]
    by_cases hji:j=i
    ·grind
    ·rw [if_neg hji,<- hM j]
     simp [hji]
   ·grind
   ·rw [hget] at hk ⊢
    by_cases hji:j=i
    ·rw [if_pos hji]
    ·rw [if_neg hji]
     by_cases hki:k=i
     ·grind
     grind
theorem Inv.reserve {B:Nat} {w0:Start} {σ:Sg} {H:Heap} {w:World} (h:Inv B w0 σ H w) (n:Nat):Inv B w0 σ (H++List.replicate n OC) w:=by
 have hold:∀(i:Nat) (b:Box),(H++List.replicate n OC)[i]? = some b->b.live=true->H[i]? = some b:=by
  intro i b hb hl
  rw [List.getElem?_append] at hb
  split at hb
  ·exact hb
  ·have:=(List.mem_replicate.1 (List.mem_of_getElem? hb)).2
   subst this
   cases hl
 refine⟨h.below,h.size,fun id L hL=>?_,fun i b hb hl=>h.boxes i b (hold i b hb hl) hl,fun i j b1 b2 L1 L2 g h1 h2 l1 l2=>h.apart i j b1 b2 L1 L2 g (hold i b1 h1 l1) (hold j b2 h2 l2) l1 l2,h.cells,
  fun b c hc i bx L hb hl=>h.floor b c hc i bx L (hold i bx hb hl) hl,fun i b hb hl=>h.low i b (hold i b hb hl) hl,h.old,h.kept⟩
 obtain⟨b,h1,h2⟩:=h.dom id L hL
 grind
theorem Z6u {B:Nat} {w0:Start} {σ:Sg} {P:Program} {st st' : St} {a:Act} {w:World} (hE:Ci E) (hP:E.P=P) (hmix:P.follows .mixedOrders=true) (hcall:Jo P E B w0 call) (hpure:OA E call) (hd:dA E ops=true)
  (h:Ez E B w0 σ st a w) (hs:Qn call E ops st=some st') {id:Nat} {Q:Exit->Act->World->Prop} (hn:∀a' w' σ',Ez E B w0 σ' st' a' w' -> Ext σ w σ' w' -> Q .normal a' w'):(Code.region id ops true).wp P Q a w:=by
 have hg:w.grownBy { w with drawn:=w.drawn+1 } none:=⟨rfl,rfl,rfl,Nat.le_refl _,fun _ _ _=>rfl⟩
 obtain⟨hI,hEx⟩:=h.inv.grown hg
 refine wp_region_any hmix ?_
 unfold Qn at hs
 refine ZlG hE hP hcall hpure (Zdb hd) (m:=if ops.any (fun o=>decide (Bd E o = .a)) then ops.size else 0) (fun i o ho hc=>?_) ops.size (List.range ops.size) _ _ σ a _ (by simp) (by simp) (fun j=>?_) List.pairwise_lt_range (fun k j hk=>?_) hs
  ⟨hI.reserve _,h.EP.ext hEx,h.slots.ext hEx,h.calm⟩ (fun a' w' σ' hr he=>hn a' w' σ' hr (hEx.trans he))
 ·grind
 ·rw [List.mem_range]
  rcases Nat.lt_or_ge j ops.size with hj|hj
  ·simp [hj]
  simp_all
 ·exfalso
  rcases Nat.lt_or_ge k ops.size with hj|hj
  ·simp [hj] at hk
  ·simp [hj] at hk
end
end Go.Proofs.YtddbklgndkpipaaGreatDoor.Le
namespace Go.Proofs.YtddbklgndkpipaaGreatDoor.Le
open Go.RowKit (Below)
def Ex.out:Ex->Exit
 | .normal=>.normal
 | .ret=>.ret
 | .exit id=>.exit id
def uN (P:Program) (E:Env) (B:Nat) (w0:Start) (f:FuncId) (lp:Code->St->Option (Ex×St)):Prop:=
 ∀b st ex st',EO E f b=true->lp b st=some (ex,st')->∀(Q:Exit->Act->World->Prop) σ a w,Ez E B w0 σ st a w ->
  (∀a' w' σ',Ez E B w0 σ' st' a' w' -> Ext σ w σ' w' -> Q ex.out a' w')->(Code.loop b).wp P Q a w
section
variable {P:Program} {E:Env} {B:Nat} {w0:Start} {call:Df} {f:FuncId}
theorem bI (hE:Ci E) (hP:E.P=P) (hcall:Jo P E B w0 call) (hpure:OA E call) {lp:Code->St->Option (Ex×St)} (hlp:uN P E B w0 f lp) :
  ∀(c:Code) (st:St) (ex:Ex) (st' : St),EO E f c=true->Hr call lp E f c st=some (ex,st')->∀(Q:Exit->Act->World->Prop) (σ:Sg) (a:Act) (w:World),Ez E B w0 σ st a w ->
   (∀a' w' σ',Ez E B w0 σ' st' a' w' -> Ext σ w σ' w' -> Q ex.out a' w')->c.wp P Q a w:=by
 intro c
 induction c with
 | skip=>
  intro st ex st' hc h Q σ a w hr hn
  simp only [Hr,Option.some.injEq,Prod.mk.injEq] at h
  obtain⟨rfl,rfl⟩:=h
  exact wp_skip (hn a w σ hr (Ext.refl σ w))
 | region id ops draw=>
  intro st ex st' hc h Q σ a w hr hn
  cases draw with
  | false=>
   simp only [Hr] at h
   cases hs:O4 call E ops (List.range ops.size) st with
   | none=>simp [hs] at h
   | some r=>
    simp only [hs,Option.map_some,Option.some.injEq,Prod.mk.injEq] at h
    obtain⟨rfl,rfl⟩:=h
    exact wp_region (Z6H hE hP hcall _ st σ a w hr hs hn)
  | true=>
   simp only [Hr] at h
   split at h
   ·rename_i hcalm
    cases hs:Qn call E ops st with
    | none=>simp [hs] at h
    | some r=>
     simp only [hs,Option.map_some,Option.some.injEq,Prod.mk.injEq] at h
     obtain⟨rfl,rfl⟩:=h
     refine Z6u hE hP (by rw [<- hP];exact hE.mix) hcall hpure ?_ hr hs hn
     simpa [EO,hcalm] using hc
   ·cases h
 | seq x y ihx ihy=>
  intro st ex st' hc h Q σ a w hr hn
  simp only [EO,Bool.and_eq_true] at hc
  simp only [Hr] at h
  split at h
  ·rename_i st1 h1
   exact wp_seq (ihx st .normal st1 hc.1 h1 _ σ a w hr (fun a1 w1 σ1 hr1 he1=>ihy st1 ex st' hc.2 h Q σ1 a1 w1 hr1 (fun a' w' σ' hr' he' =>hn a' w' σ' hr' (he1.trans he'))))
  ·rename_i hne
   refine wp_seq (ihx st ex st' hc.1 h _ σ a w hr (fun a1 w1 σ1 hr1 he1=>?_))
   have:=hn a1 w1 σ1 hr1 he1
   cases ex with
   | normal=>exact absurd h (hne _)
   | ret=>exact this
   | exit id=>exact this
 | cond c x y ihx ihy=>
  intro st ex st' hc h Q σ a w hr hn
  simp only [EO,Bool.and_eq_true] at hc
  simp only [Hr] at h
  split at h
  ·rename_i t ht
   have hv:=EW (a:=a) hr.EP hr.slots c
   rw [ht] at hv
   have hb:a.eval c = .bool t:=by generalize a.eval c=v at hv;cases hv;rfl
   refine wp_cond hb ?_
   grind
  ·cases h
 | block id b ih=>
  intro st ex st' hc h Q σ a w hr hn
  simp only [EO] at hc
  simp only [Hr] at h
  split at h
  ·rename_i i st1 h1
   refine wp_block (ih st (.exit i) st1 hc h1 _ σ a w hr (fun a1 w1 σ1 hr1 he1=>?_))
   simp only [Ex.out,Exit.inBlock]
   split at h
   ·rename_i hi
    cases h
    rw [if_pos hi]
    exact hn a1 w1 σ1 hr1 he1
   ·rename_i hi
    cases h
    rw [if_neg hi]
    exact hn a1 w1 σ1 hr1 he1
  ·rename_i hne
   refine wp_block (ih st ex st' hc h _ σ a w hr (fun a1 w1 σ1 hr1 he1=>?_))
   have:=hn a1 w1 σ1 hr1 he1
   cases ex with
   | normal=>exact this
   | ret=>exact this
   | exit i=>simp_all
 | loop b ih=>
  intro st ex st' hc h Q σ a w hr hn
  exact hlp b st ex st' hc h Q σ a w hr hn
 | scope b ih=>
  intro st ex st' hc h Q σ a w hr hn
  simp only [EO] at hc
  simp only [Hr] at h
  refine wp_scope_straight (ih st ex st' hc h _ σ a w hr (fun a1 w1 σ1 hr1 he1=>?_))
  have:=hn a1 w1 σ1 hr1 he1
  cases ex with
  | normal=>exact this
  | ret=>exact this
  | exit i=>exact this
 | label l=>
  intro st ex st' hc h Q σ a w hr hn
  simp only [Hr,Option.some.injEq,Prod.mk.injEq] at h
  obtain⟨rfl,rfl⟩:=h
  exact wp_label (hn a w σ hr (Ext.refl σ w))
 | exit id=>
  intro st ex st' hc h Q σ a w hr hn
  simp only [Hr,Option.some.injEq,Prod.mk.injEq] at h
  obtain⟨rfl,rfl⟩:=h
  exact wp_exit (hn a w σ hr (Ext.refl σ w))
 | ret=>
  intro st ex st' hc h Q σ a w hr hn
  simp only [Hr,Option.some.injEq,Prod.mk.injEq] at h
  obtain⟨rfl,rfl⟩:=h
  exact wp_ret (hn a w σ hr (Ext.refl σ w))
 | _=>
  intro st ex st' hc h
  cases h
theorem Z6M (hE:Ci E) (hP:E.P=P) (hcall:Jo P E B w0 call) (hpure:OA E call):∀n,uN P E B w0 f (Qj call E f n):=by
 have key:∀n,∀b st ex st',EO E f b=true->Qj call E f n b st=some (ex,st')->∀(Q:Exit->Act->World->Prop) σ a w,Ez E B w0 σ st a w ->
  (∀a' w' σ',Ez E B w0 σ' st' a' w' -> Ext σ w σ' w' -> Q ex.out a' w')->Code.rounds P b Q n a w:=by
  intro n
  induction n with
  | zero=>intro b st ex st' hc h;cases h
  | succ n ih=>
   intro b st ex st' hc h Q σ a w hr hn
   rw [rounds_succ]
   have hlp:uN P E B w0 f (Qj call E f n):=fun b st ex st' hc h Q σ a w hr hn=>wp_loop_rounds n (ih b st ex st' hc h Q σ a w hr hn)
   simp only [Qj] at h
   split at h
   ·rename_i st1 h1
    exact bI hE hP hcall hpure hlp b st .normal st1 hc h1 _ σ a w hr (fun a1 w1 σ1 hr1 he1=>ih b st1 ex st' hc h Q σ1 a1 w1 hr1 (fun a' w' σ' hr' he' =>hn a' w' σ' hr' (he1.trans he')))
   ·rename_i hne
    refine bI hE hP hcall hpure hlp b st ex st' hc h _ σ a w hr (fun a1 w1 σ1 hr1 he1=>?_)
    have:=hn a1 w1 σ1 hr1 he1
    cases ex with
    | normal=>exact absurd h (hne _)
    | ret=>exact this
    | exit id=>exact this
 exact fun n b st ex st' hc h Q σ a w hr hn=>wp_loop_rounds n (key n b st ex st' hc h Q σ a w hr hn)
theorem ZhW {σ:Sg} {H:Heap} {w:World} (hE:Ci E) (hP:E.P=P) (hI:Inv B w0 σ H w) {t:TypeId} {x r:V} {v:Value} (hx:AU σ w [x] [v]) (h:Ko E H t x=some r) :
  ∃u,(do loadVar t (<- asAddr v):Sem Value).run P w = .ok u w/\AU σ w [r] [u]:=by
 obtain⟨u,hu,hr⟩:=Z6O (P:=P) hE hP hI hx h
 refine⟨u,?_,hr⟩
 have hv:∃A,v = .pointer (some A):=by
  unfold Ko at h
  split at h
  ·cases h
  ·split at h
   ·cases hx;exact⟨_,rfl⟩
   ·cases hx with
    | ptr g _ _ _ h4 _=>exact⟨_,h4⟩
   ·cases h
 obtain⟨A,rfl⟩:=hv
 rw [<- hu]
 simp [Instr.loadAt,asAddr,Instr.sureAddr]
theorem ZnM {σ:Sg} {H:Heap} {w:World} {s:List V} {tmps:Array Value} (hE:Ci E) (hP:E.P=P) (hI:Inv B w0 σ H w) (hs:AU σ w s tmps.toList):∀(rs:List ResultVar) (xs:List V),rs.mapM (resD E H s)=some xs ->
  ∃vs,(rs.mapM (fun(r:ResultVar)=>(match r with | .tmp t=>pure (tmps.getD t undef) | .cell a t=>do loadVar t (<- asAddr (tmps.getD a undef)):Sem Value))).run P w = .ok vs w/\AU σ w xs vs:=by
 have hget:∀t,AU σ w [s.getD t .und] [tmps.getD t undef]:=fun t=>by
  have:=Z4I hs t
  simpa using this
 intro rs
 induction rs with
 | nil=>
  intro xs h
  simp at h
  subst h
  exact⟨[],rfl,.nil⟩
 | cons r rs ih=>
  intro xs h
  rw [List.mapM_cons] at h
  cases hr:resD E H s r with
  | none=>simp [hr] at h
  | some x=>
   cases hrs:rs.mapM (resD E H s) with
   | none=>simp [hr,hrs] at h
   | some xs' =>
    simp [hr,hrs] at h
    subst h
    obtain⟨vs,hv,hx⟩:=ih xs' hrs
    have h1:∃u,((match r with | .tmp t=>pure (tmps.getD t undef) | .cell a t=>do loadVar t (<- asAddr (tmps.getD a undef)):Sem Value)).run P w = .ok u w/\AU σ w [x] [u]:=by
     cases r with
     | tmp t=>
      simp only [resD,Option.some.injEq] at hr
      subst hr
      simp_all
     | cell a t=>exact ZhW hE hP hI (hget a) hr
    obtain⟨u,hu,hur⟩:=h1
    refine⟨u::vs,?_,AU.Ew.2 ⟨hur,hx⟩⟩
    simp_all
theorem Y5 {σ:Sg} {H:Heap} {w:World} {s:List V} {tmps:Array Value} (hE:Ci E) (hP:E.P=P) (hI:Inv B w0 σ H w) (hs:AU σ w s tmps.toList) {fn:Func} {x:V} (h:KH E H s fn.results.toList=some x) :
  ∃u,(results fn tmps).run P w = .ok u w/\AU σ w [x] [u]:=by
 unfold KH at h
 cases hm:fn.results.toList.mapM (resD E H s) with
 | none=>simp [hm] at h
 | some xs=>
  obtain⟨vs,hv,hr⟩:=ZnM (P:=P) hE hP hI hs _ xs hm
  have hrun:(results fn tmps).run P w = .ok (if h:vs.toArray.size=1 then vs.toArray[0] else .tuple vs.toArray) w:=by
   unfold results
   rw [Sem.run_bind]
   have hm2:(fn.results.mapM (fun(r:ResultVar)=>(match r with | .tmp t=>pure (tmps.getD t undef) | .cell a t=>do loadVar t (<- asAddr (tmps.getD a undef)):Sem Value))).run P w = .ok vs.toArray w:=by
    rw [Array.mapM_eq_mapM_toList,map_eq_pure_bind,Sem.run_bind,hv,Result.andThen_ok]
    rfl
   have:=congrArg (fun r=>Result.andThen r fun(vs:Array Value) (w' : World)=>(pure (if h:vs.size=1 then vs[0] else .tuple vs):Sem Value).run P w') hm2
   exact this
  refine⟨_,hrun,?_⟩
  rw [hm] at h
  have hlen:=hr.length
  split at h
  ·rename_i v hh
   cases hh
   simp only [Option.some.injEq] at h
   subst h
   obtain⟨u,vs',rfl,h1,h2⟩:=hr.Dt
   simp_all
  ·rename_i ys hne hh
   cases hh
   simp only [Option.some.injEq] at h
   subst h
   have:¬vs.toArray.size=1:=by
    intro hh
    simp at hh
    rw [<- hlen] at hh
    obtain⟨y,rfl⟩:=List.length_eq_one_iff.1 hh
    exact hne y rfl
   rw [dif_neg this]
   exact .BG hr .nil
  simp_all
end
end Go.Proofs.YtddbklgndkpipaaGreatDoor.Le
namespace Go.Proofs.YtddbklgndkpipaaGreatDoor.Le
open Go.RowKit (Below)
def bare (fz:Nat->Nat->Prop):Sg:=⟨fun _=>none,fz⟩
theorem Lies.bare {σ σ' : Sg} {w w' : World} {b o:Nat} {us:List Value} (h:Lies σ w b o us) (hfz:∀b c,σ.fz b c->σ'.fz b c/\w'.cell? ⟨b,c,none⟩=w.cell? ⟨b,c,none⟩):Lies σ' w' b o us:=fun j u hu=>by
 obtain⟨h1,h2⟩:=h j u hu
 simp_all
theorem AU.bare {σ σ' : Sg} {w w' : World} {xs:List V} {vs:List Value} (h:AU σ w xs vs) (hfz:∀b c,σ.fz b c->σ'.fz b c/\w'.cell? ⟨b,c,none⟩=w.cell? ⟨b,c,none⟩) (hmp:EH w w') :
  CS xs=true->AU σ' w' xs vs:=by
 induction h with
 | nil=>intro _;exact .nil
 | und u _ ih=>intro hn;simp [CS] at hn;exact .und u (ih hn.2)
 | no _ ih=>intro hn;simp [CS] at hn;exact .no (ih hn.2)
 | lit hl _ ih=>intro hn;simp [CS] at hn;exact .lit hl (ih hn.2)
 | agg _ ho _ ih1 ih2=>intro hn;simp [CS,Cf] at hn;exact .agg (ih1 hn.1) ho (ih2 hn.2)
 | BG _ _ ih1 ih2=>intro hn;simp [CS,Cf] at hn;exact .BG (ih1 hn.1) (ih2 hn.2)
 | Es _ ih=>intro hn;simp [CS] at hn;exact .Es (ih hn.2)
 | Fe _ ih=>intro hn;simp [CS] at hn;exact .Fe (ih hn.2)
 | F7 a _ ih=>intro hn;simp [CS] at hn;exact .F7 a (ih hn.2)
 | Fq a _ ih=>intro hn;simp [CS] at hn;exact .Fq a (ih hn.2)
 | sl b o c e' _ h0 h1 h2 h3 h4 h5 _ ih1 ih2=>intro hn;simp [CS,Cf] at hn;exact .sl b o c e' (ih1 hn.1) h0 h1 h2 h3 h4 (h5.bare hfz) (ih2 hn.2)
 | Cj b o e' _ h0 h1 h2 h3 h4 _ ih1 ih2=>intro hn;simp [CS,Cf] at hn;exact .Cj b o e' (ih1 hn.1) h0 h1 h2 h3 (h4.bare hfz) (ih2 hn.2)
 | Be h1 h2 h3 h4 _ ih=>intro hn;simp [CS,Cf] at hn
 | ptr g h1 h2 h3 h4 _ ih=>intro hn;simp [CS,Cf] at hn
 | CY b o e' i off _ h0 h1 h2 h3 _ ih1 ih2=>intro hn;simp [CS,Cf] at hn;exact .CY b o e' i off (ih1 hn.1) h0 h1 h2 (h3.bare hfz) (ih2 hn.2)
 | fn _ _ _ ih1 ih2 ih3=>intro hn;simp [CS,Cf] at hn;exact .fn (ih1 hn.1.1) (ih2 hn.1.2) (ih3 hn.2)
 | GX _ _ ih1 ih2=>intro hn;simp [CS,Cf] at hn;exact .GX (ih1 (by simp [CS,hn.1])) (ih2 hn.2)
 | GV g es c _ h1 h2 _ ih1 ih2=>intro hn;simp [CS,Cf] at hn;exact .GV g es c (ih1 hn.1) (hmp _ _ _ h1) h2 (ih2 hn.2)
theorem Dk.bare {E:Env} {σ σ' : Sg} {w w' : World} (h:Dk E σ w) (hfz:∀b c,σ.fz b c->σ'.fz b c/\w'.cell? ⟨b,c,none⟩=w.cell? ⟨b,c,none⟩) (hmp:EH w w'):Dk E σ' w' :=by
 intro g r hg
 have hr:=h g r hg
 generalize hv:Value.pointer (some ⟨g,0,none⟩)=v at hr ⊢
 cases hr with
 | CY b o e' i off k0 k1 k2 k3 k4 _=>exact .CY b o _ _ _ (k0.bare hfz hmp (Ox k1)) k1 k2 k3 (k4.bare hfz) .nil
theorem pY (ρ:Nat->Nat) (xs:List V):Fg ρ xs=xs.map (Ej ρ):=by
 induction xs with
 | nil=>rfl
 | cons x xs ih=>simp [Fg,ih]
theorem kH (ρ:Nat->Nat) (xs:List V):(Fg ρ xs).length=xs.length:=by rw [pY];simp
theorem Z6P (ρ:Nat->Nat) (x:V):okV (Ej ρ x)=okV x:=by cases x<;>simp [Ej,okV]
theorem nO {σ σ' : Sg} {w w' : World} {ρ:Nat->Nat} {xs:List V} {vs:List Value} (h:AU σ w xs vs) (hfz:∀b c,σ.fz b c->σ'.fz b c/\w'.cell? ⟨b,c,none⟩=w.cell? ⟨b,c,none⟩) (hmp:EH w w') :
  (∀id∈D6 xs,σ'.box (ρ id)=σ.box id)->AU σ' w' (Fg ρ xs) vs:=by
 induction h with
 | nil=>intro _;exact .nil
 | und u _ ih=>intro hn;exact .und u (ih fun id h=>hn id (by simp [D6,h]))
 | no _ ih=>intro hn;exact .no (ih fun id h=>hn id (by simp [D6,h]))
 | lit hl _ ih=>intro hn;exact .lit hl (ih fun id h=>hn id (by simp [D6,h]))
 | agg _ ho _ ih1 ih2=>intro hn;exact .agg (ih1 fun id h=>hn id (by simp [D6,EF,h])) ho (ih2 fun id h=>hn id (by simp [D6,h]))
 | BG _ _ ih1 ih2=>intro hn;exact .BG (ih1 fun id h=>hn id (by simp [D6,EF,h])) (ih2 fun id h=>hn id (by simp [D6,h]))
 | Es _ ih=>intro hn;exact .Es (ih fun id h=>hn id (by simp [D6,h]))
 | Fe _ ih=>intro hn;exact .Fe (ih fun id h=>hn id (by simp [D6,h]))
 | F7 a _ ih=>intro hn;exact .F7 a (ih fun id h=>hn id (by simp [D6,h]))
 | Fq a _ ih=>intro hn;exact .Fq a (ih fun id h=>hn id (by simp [D6,h]))
 | sl b o c e' h h0 h1 h2 h3 h4 h5 _ _ ih2=>intro hn;exact .sl b o c e' (h.bare hfz hmp (Ox h0)) h0 h1 h2 h3 h4 (h5.bare hfz) (ih2 fun id h=>hn id (by simp [D6,h]))
 | Cj b o e' h h0 h1 h2 h3 h4 _ _ ih2=>intro hn;exact .Cj b o e' (h.bare hfz hmp (Ox h0)) h0 h1 h2 h3 (h4.bare hfz) (ih2 fun id h=>hn id (by simp [D6,h]))
 | Be h1 h2 h3 h4 _ ih=>intro hn;exact .Be ((hn _ (by simp [D6,EF])).trans h1) h2 h3 h4 (ih fun id h=>hn id (by simp [D6,h]))
 | ptr g h1 h2 h3 h4 _ ih=>intro hn;exact .ptr g ((hn _ (by simp [D6,EF])).trans h1) h2 h3 h4 (ih fun id h=>hn id (by simp [D6,h]))
 | CY b o e' i off h h0 h1 h2 h3 _ _ ih2=>intro hn;exact .CY b o e' i off (h.bare hfz hmp (Ox h0)) h0 h1 h2 (h3.bare hfz) (ih2 fun id h=>hn id (by simp [D6,h]))
 | fn _ _ _ ih1 ih2 ih3=>intro hn;exact .fn (ih1 fun id h=>hn id (by simp [D6,EF,h])) (ih2 fun id h=>hn id (by simp [D6,EF,h])) (ih3 fun id h=>hn id (by simp [D6,h]))
 | GX _ _ ih1 ih2=>intro hn;exact .GX (ih1 fun id h=>hn id (by simp [D6,EF] at h ⊢;simp [h])) (ih2 fun id h=>hn id (by simp [D6,h]))
 | GV g es c _ h1 h2 _ ih1 ih2=>intro hn;exact .GV g es c (ih1 fun id h=>hn id (by simp [D6,EF,h])) (hmp _ _ _ h1) h2 (ih2 fun id h=>hn id (by simp [D6,h]))
theorem Z5d {σ σ' : Sg} {w w' : World} {ρ:Nat->Nat} {x:V} {v:Value} (h:AU σ w [x] [v]) (hfz:∀b c,σ.fz b c->σ'.fz b c/\w'.cell? ⟨b,c,none⟩=w.cell? ⟨b,c,none⟩) (hmp:EH w w')
  (hn:∀id∈EF x,σ'.box (ρ id)=σ.box id):AU σ' w' [Ej ρ x] [v]:=nO h hfz hmp (by simpa [D6] using hn)
structure Fh (H H1:Heap):Prop where
 len:H.length<=H1.length
 at_:∀(id:Nat) (b:Box),H[id]? = some b->∃b',H1[id]? = some b' /\ b'.live=b.live/\b'.row=b.row/\b'.xs=b.xs
theorem Fh.refl (H:Heap):Fh H H:=⟨Nat.le_refl _,fun id b h=>⟨b,h,rfl,rfl,rfl⟩⟩
theorem Fh.trans {A B C:Heap} (h:Fh A B) (k:Fh B C):Fh A C:=
 ⟨Nat.le_trans h.len k.len,fun id b hb=>by
  obtain⟨b1,h1,h2,h3,h4⟩:=h.at_ id b hb
  obtain⟨b2,k1,k2,k3,k4⟩:=k.at_ id b1 h1
  simp_all⟩
theorem Fh.bump (H:Heap) (ids:List Nat):Fh H (bump H ids):=
 ⟨by rw [bump_length];exact Nat.le_refl _,fun id b hb=>⟨_,by rw [Il,hb];rfl,by split<;>rfl,by split<;>rfl,by split<;>rfl⟩⟩
theorem Fh.push (H:Heap) (b:Box):Fh H (H++[b]):=
 ⟨by simp,fun id b' hb=>⟨b',by grind,rfl,rfl,rfl⟩⟩
section
variable {B:Nat} {w0:Start} {σ:Sg} {H H1:Heap} {w:World}
theorem Z5Q (h:Inv B w0 σ H w) {f:Fk} {x y:V} {v:Value} (hr:AU σ w [x] [v]) (hp:FV f H x=some (y,H1)):Fh H H1/\∃σ',Inv B w0 σ' H1 w/\Ext σ w σ' w/\AU σ' w [y] [v]:=by
 have mk:∀(e:TypeId) (sz:Nat),∃σ',Inv B w0 σ' (H++[DD true false e sz []]) w/\Ext σ w σ' w/\AU σ' w [.Be H.length 0 0 0] [.slice none 0 0]:=by
  intro e sz
  obtain⟨σ',h1,h2,h3⟩:=LZ (e:=e) (Au:=sz) (v' :=.slice none 0 0) h (Vh H) (grownBy_refl w none) (xs:=[]) (us:=[]) .nil (by simp) (by simp) (by simp [flat]) ⟨by simp [flat],.inl ⟨rfl,rfl⟩⟩ (by simp [Value.ownBlock]) false (by simp)
  exact⟨σ',by rw [ZjE] at h1;exact h1,h2,h3⟩
 cases f with
 | s e sz=>
  simp only [FV] at hp
  cases hf:Fj H x with
  | none=>simp [hf] at hp
  | some y0=>
   simp only [hf,Option.map_some,Option.some.injEq,Prod.mk.injEq] at hp
   obtain⟨rfl,rfl⟩:=hp
   obtain⟨h1,h2⟩:=h.freeze (Ea x)
   exact⟨Fh.bump _ _,_,h1,h2,kJ sz (Yr h hr hf (Ea x) (fun i hi=>hi))⟩
 | own e sz=>
  simp only [FV] at hp
  unfold TG at hp
  split at hp
  ·simp only [Option.some.injEq,Prod.mk.injEq] at hp
   obtain⟨rfl,rfl⟩:=hp
   cases hr with
   | Es _=>exact⟨Fh.push _ _,mk e sz⟩
  ·simp only [Option.some.injEq,Prod.mk.injEq] at hp
   obtain⟨rfl,rfl⟩:=hp
   cases hr with
   | Fe _=>exact⟨Fh.push _ _,mk e sz⟩
  ·split at hp
   ·simp only [Option.some.injEq,Prod.mk.injEq] at hp
    obtain⟨rfl,rfl⟩:=hp
    exact⟨Fh.refl _,σ,h,Ext.refl _ _,hr⟩
   ·cases hp
  ·cases hp
 | keep=>
  simp only [FV,Option.some.injEq,Prod.mk.injEq] at hp
  obtain⟨rfl,rfl⟩:=hp
  exact⟨Fh.refl _,σ,h,Ext.refl _ _,hr⟩
 | drop=>
  simp only [FV,Option.some.injEq,Prod.mk.injEq] at hp
  obtain⟨rfl,rfl⟩:=hp
  exact⟨Fh.refl _,σ,h,Ext.refl _ _,.und _ .nil⟩
theorem Zlw:∀{fl:List Fk} {H:Heap} {σ:Sg} {xs ys:List V} {vs:List Value} {H1:Heap},Inv B w0 σ H w->AU σ w xs vs->FQ fl H xs=some (ys,H1)->Fh H H1/\∃σ',Inv B w0 σ' H1 w/\Ext σ w σ' w/\AU σ' w ys vs:=by
 intro fl
 induction fl with
 | nil=>
  intro H σ xs ys vs H1 h hr hp
  cases xs with
  | nil=>
   simp only [FQ,Option.some.injEq,Prod.mk.injEq] at hp
   obtain⟨rfl,rfl⟩:=hp
   exact⟨Fh.refl _,σ,h,Ext.refl _ _,hr⟩
  | cons=>simp [FQ] at hp
 | cons f fl ih=>
  intro H σ xs ys vs H1 h hr hp
  cases xs with
  | nil=>simp [FQ] at hp
  | cons x xs=>
   obtain⟨v,vs',rfl,hr1,hr2⟩:=hr.Dt
   simp only [FQ] at hp
   cases h1:FV f H x with
   | none=>simp [h1] at hp
   | some r=>
    obtain⟨y,Ha⟩:=r
    simp only [h1] at hp
    cases h2:FQ fl Ha xs with
    | none=>simp [h2] at hp
    | some r=>
     obtain⟨ys',Hb⟩:=r
     simp only [h2,Option.some.injEq,Prod.mk.injEq] at hp
     obtain⟨rfl,rfl⟩:=hp
     obtain⟨k1,σ1,i1,e1,r1⟩:=Z5Q h hr1 h1
     obtain⟨k2,σ2,i2,e2,r2⟩:=ih i1 (hr2.ext e1) h2
     exact⟨k1.trans k2,σ2,i2,e1.trans e2,AU.Ew.2 ⟨r1.ext e2,r2⟩⟩
theorem Z69 (h:Inv B w0 σ H w) {fl:List Fk} {x y:V} {v:Value} (hr:AU σ w [x] [v]) (hp:IW fl H x=some (y,H1)):Fh H H1/\∃σ',Inv B w0 σ' H1 w/\Ext σ w σ' w/\AU σ' w [y] [v]:=by
 unfold IW at hp
 split at hp
 ·rename_i cs
  cases hl:FQ fl H cs with
  | none=>simp [hl] at hp
  | some r=>
   obtain⟨ys,Ha⟩:=r
   simp only [hl,Option.map_some,Option.some.injEq,Prod.mk.injEq] at hp
   obtain⟨rfl,rfl⟩:=hp
   cases hr with
   | agg h1 ho _=>
    obtain⟨k1,σ1,i1,e1,r1⟩:=Zlw h h1 hl
    exact⟨k1,σ1,i1,e1,.agg r1 ho .nil⟩
 ·split at hp
  ·exact Z5Q h hr hp
  ·cases hp
theorem ZkP:∀{fl:List (List Fk)} {H:Heap} {σ:Sg} {xs ys:List V} {vs:List Value} {H1:Heap},Inv B w0 σ H w->AU σ w xs vs->FW fl H xs=some (ys,H1)->Fh H H1/\∃σ',Inv B w0 σ' H1 w/\Ext σ w σ' w/\AU σ' w ys vs:=by
 intro fl
 induction fl with
 | nil=>
  intro H σ xs ys vs H1 h hr hp
  cases xs with
  | nil=>
   simp only [FW,Option.some.injEq,Prod.mk.injEq] at hp
   obtain⟨rfl,rfl⟩:=hp
   exact⟨Fh.refl _,σ,h,Ext.refl _ _,hr⟩
  | cons=>simp [FW] at hp
 | cons f fl ih=>
  intro H σ xs ys vs H1 h hr hp
  cases xs with
  | nil=>simp [FW] at hp
  | cons x xs=>
   obtain⟨v,vs',rfl,hr1,hr2⟩:=hr.Dt
   simp only [FW] at hp
   cases h1:IW f H x with
   | none=>simp [h1] at hp
   | some r=>
    obtain⟨y,Ha⟩:=r
    simp only [h1] at hp
    cases h2:FW fl Ha xs with
    | none=>simp [h2] at hp
    | some r=>
     obtain⟨ys',Hb⟩:=r
     simp only [h2,Option.some.injEq,Prod.mk.injEq] at hp
     obtain⟨rfl,rfl⟩:=hp
     obtain⟨k1,σ1,i1,e1,r1⟩:=Z69 h hr1 h1
     obtain⟨k2,σ2,i2,e2,r2⟩:=ih i1 (hr2.ext e1) h2
     exact⟨k1.trans k2,σ2,i2,e1.trans e2,AU.Ew.2 ⟨r1.ext e2,r2⟩⟩
structure eG (ids:List Nat) (H:Heap):Prop where
 nodup:ids.Nodup
 at_:∀id∈ids,∃b,H[id]? = some b/\b.live=true/\(b.row=false->∀r∈D6 b.xs,r∈ids)
theorem ZkL:∀(n:Nat) {fb:List Bf} {H:Heap} {σ:Sg} {todo seen ids:List Nat} {H2:Heap},Inv B w0 σ H w->Ho n fb H todo seen=some (H2,ids)->seen.Nodup ->
  (∀id∈seen,∃b,H[id]? = some b/\b.live=true/\(b.row=false->∀r∈D6 b.xs,r∈seen++todo)) ->
  H.length<=H2.length/\(∀id∈seen++todo,id∈ids)/\eG ids H2/\∃σ',Inv B w0 σ' H2 w/\Ext σ w σ' w:=by
 intro n
 induction n with
 | zero=>intro fb H σ todo seen ids H2 _ h;cases h
 | succ n ih=>
  intro fb H σ todo seen ids H2 hI h hnd hcl
  cases todo with
  | nil=>
   simp only [Ho,Option.some.injEq,Prod.mk.injEq] at h
   obtain⟨rfl,rfl⟩:=h
   exact⟨Nat.le_refl _,by simp,⟨hnd,by simpa using hcl⟩,σ,hI,Ext.refl _ _⟩
  | cons id todo=>
   unfold Ho at h
   by_cases hin:seen.contains id=true
   ·grind
   ·rw [if_neg hin] at h
    have hin' : id∉seen:=by simpa using hin
    have hnd' : (seen++[id]).Nodup:=by
     rw [List.nodup_append]
     exact⟨hnd,by simp,fun a ha b hb=>by simp at hb;subst hb;intro e;subst e;exact hin' ha⟩
    have hmem:∀{i:Nat} {t:List Nat},i∈seen++id::todo->i∈(seen++[id])++(todo++t):=by
     intro i t hi
     simp only [List.mem_append,List.mem_cons] at hi ⊢
     rcases hi with hx|hx|hx
     ·exact .inl (.inl hx)
     ·exact .inl (.inr (.inl hx))
     ·exact .inr (.inl hx)
    split at h
    ·rename_i b fresh fb' hb
     split at h
     ·rename_i hc
      simp only [Bool.and_eq_true] at hc
      generalize hH' : (if fresh then H else bump H [id])=H' at h
      have hk:Fh H H' /\ ∃σ',Inv B w0 σ' H' w/\Ext σ w σ' w:=by
       cases fresh with
       | true=>rw [if_pos rfl] at hH';subst hH';exact⟨Fh.refl _,σ,hI,Ext.refl _ _⟩
       | false=>
        rw [if_neg (by simp)] at hH'
        subst hH'
        obtain⟨i1,i2⟩:=hI.freeze [id]
        exact⟨Fh.bump _ _,_,i1,i2⟩
      obtain⟨hk,σ1,hI1,hE1⟩:=hk
      obtain⟨h1,h2,h3,σ2,h4,h5⟩:=ih hI1 h hnd' (fun i hi=>by
       simp only [List.mem_append,List.mem_singleton] at hi
       have key:∃b0,H[i]? = some b0/\b0.live=true/\(b0.row=false->∀r∈D6 b0.xs,r∈seen++id::todo):=by
        rcases hi with hi|rfl
        ·exact hcl i hi
        ·exact⟨b,hb,hc.1,fun hr=>by rw [hc.2] at hr;cases hr⟩
       obtain⟨b0,k1,k2,k3⟩:=key
       obtain⟨b',m1,m2,m3,m4⟩:=hk.at_ i b0 k1
       grind)
      refine⟨Nat.le_trans hk.len h1,fun i hi=>h2 i ?_,h3,σ2,h4,hE1.trans h5⟩
      grind
     ·cases h
    ·rename_i b fl fb' hb
     split at h
     ·rename_i hc
      simp only [Bool.and_eq_true,Bool.not_eq_true'] at hc
      split at h
      ·rename_i x hx
       split at h
       ·rename_i y H1 hp
        split at h
        ·rename_i b1 hb1
         split at h
         ·rename_i hoky
          obtain⟨L,hL,hok⟩:=hI.boxes id b hb hc.1
          obtain⟨us,r1,r2,r3,r4⟩:=hok.Dj
          rw [hx] at r1
          obtain⟨u,us',rfl,r5,r6⟩:=r1.Dt
          obtain⟨hk,σ1,hI1,hE1,hy⟩:=Z69 hI r5 hp
          obtain⟨b1',m1,m2,m3,m4⟩:=hk.at_ id b hb
          rw [hb1] at m1
          cases m1
          have hlive1:b1.live=true:=m2.trans hc.1
          have hrow1:b1.row=false:=m3.trans hc.2
          have hx1:b1.xs=[x]:=m4.trans hx
          have hsw:∃σ2,Inv B w0 σ2 (H1.set id { b1 with xs:=[y] }) w/\Ext σ1 w σ2 w:=by
           obtain⟨L1,hL1,hok1⟩:=hI1.boxes id b1 hb1 hlive1
           obtain⟨us1,s1,s2,s3,s4⟩:=hok1.Dj
           rw [hx1] at s1
           obtain⟨u1,us1',rfl,s5,s6⟩:=s1.Dt
           cases s6.FT
           cases r6.FT
           have hu:u1.cells.toList=u.cells.toList:=by
            obtain⟨L',hL',he,hLL⟩:=hE1.box id L hL
            rw [hL1] at hL'
            cases hL'
            have ht1:L1.tot=1:=by rw [hok1.tot,hx1];rfl
            have ht:L.tot=1:=by rw [hok.tot,hx];rfl
            have hLe:L1=L:=by
             rcases hLL with e|e
             ·exact e
             ·omega
            subst hLe
            rcases r4.2 with ⟨hv,hn⟩|⟨g,cap,cur,tg,hv,_,hg,_,_,_,_,hcur⟩
            ·grind
            ·rcases s4.2 with ⟨hv',hn'⟩|⟨g',cap',cur',tg',hv',_,hg',_,_,_,_,hcur'⟩
             ·grind
             ·rw [hv] at hv'
              simp only [Value.slice.injEq,Option.some.injEq,Addr.mk.injEq,and_true] at hv'
              obtain⟨rfl,_,_⟩:=hv'
              rw [hg] at hg'
              simp only [Option.some.injEq,Obj.cells.injEq] at hg'
              obtain⟨rfl,_⟩:=hg'
              rw [LQ] at hcur hcur'
              grind
           obtain⟨i1,i2⟩:=hI1.upd hb1 hlive1 hL1 (grownBy_refl w _) { b1 with xs:=[y] } hlive1 L1 rfl (.inl rfl) rfl (by simp [hx1]) (fun g hg=>.inl hg) (fun _ _ _ _=>rfl)
            (fun ex=>⟨by rw [hok1.tot,hx1];rfl,⟨[u],hy.ext ex,fun z hz=>by simp at hz;subst hz;rw [<- s2 u1 (by simp)];exact(congrArg List.length hu).symm,fun z hz=>s3 z (by rw [LQ] at hz ⊢;rw [hu];exact hz),by
             rw [LQ,<- hu,<- LQ];simpa [hx1] using s4⟩,hok1.EK,hok1.Au,by simpa using hoky,fun hh=>by simp only at hh;rw [hrow1] at hh;cases hh⟩)
           exact⟨_,i1,i2⟩
          obtain⟨σ2,hI2,hE2⟩:=hsw
          have hlen1:id<H1.length:=(List.getElem?_eq_some_iff.1 hb1).1
          obtain⟨h1,h2,h3,σ3,h4,h5⟩:=ih hI2 h hnd' (fun i hi=>by
           simp only [List.mem_append,List.mem_singleton] at hi
           by_cases hid:i=id
           ·subst hid
            refine⟨{ b1 with xs:=[y] },by simp [hlen1],hlive1,fun _ r hh=>?_⟩
            simp only [D6,List.append_nil] at hh
            simp [hh]
           ·have hi' : i∈seen:=by rcases hi with hi|hi;exact hi;exact absurd hi hid
            obtain⟨b0,k1,k2,k3⟩:=hcl i hi'
            obtain⟨b',q1,q2,q3,q4⟩:=hk.at_ i b0 k1
            grind)
          refine⟨Nat.le_trans hk.len (by simpa using h1),fun i hi=>h2 i (hmem hi),h3,σ3,h4,hE1.trans (hE2.trans h5)⟩
         ·cases h
        ·cases h
       ·cases h
      ·cases h
     ·cases h
    ·cases h
end
end Go.Proofs.YtddbklgndkpipaaGreatDoor.Le
namespace Go.Proofs.YtddbklgndkpipaaGreatDoor.Le
open Go.RowKit (Below)
def Sg.ren (σ:Sg) (ids:List Nat):Sg:=⟨fun j=>(ids[j]?).bind σ.box,σ.fz⟩
theorem Z6s {ids:List Nat} {id:Nat} (h:id∈ids):ids[ids.idxOf id]? = some id:=by
 grind
theorem tK {σ:Sg} {ids:List Nat} {id:Nat} (h:id∈ids):(σ.ren ids).box (ids.idxOf id)=σ.box id:=by
 simp [Sg.ren,Z6s h]
theorem ZT {w w' : World} {B e sz n:Nat} {v:Value} {us:List Value} (h:FX w B e sz v n us) (hb:∀g,v.ownBlock=some g->w'.heap[g]? = w.heap[g]?):FX w' B e sz v n us:=by
 refine⟨h.1,?_⟩
 rcases h.2 with hn|⟨g,cap,cur,tg,rfl,h1,h2,rest⟩
 ·exact .inl hn
 ·exact .inr ⟨g,cap,cur,tg,rfl,h1,by rw [hb g (by simp [Value.ownBlock])];exact h2,rest⟩
theorem IP (ρ:Nat->Nat) (b:Box):(Ey ρ b).live=b.live/\(Ey ρ b).row=b.row/\(Ey ρ b).EK=b.EK/\(Ey ρ b).elem=b.elem/\(Ey ρ b).Au=b.Au/\(Ey ρ b).floor=b.floor/\(Ey ρ b).xs.length=b.xs.length:=by
 unfold Ey
 split
 ·simp_all
 ·exact⟨rfl,rfl,rfl,rfl,rfl,rfl,kH _ _⟩
theorem J6.ren {σ σ' : Sg} {w w' : World} {B:Nat} {b:Box} {L:Loc} (ρ:Nat->Nat) (h:J6 σ w B b L) (hfz:∀b c,σ.fz b c->σ'.fz b c/\w'.cell? ⟨b,c,none⟩=w.cell? ⟨b,c,none⟩) (hmp:EH w w')
  (hn:b.row=false->∀id∈D6 b.xs,σ'.box (ρ id)=σ.box id) (hb:∀g,L.v.ownBlock=some g->w'.heap[g]? = w.heap[g]?):J6 σ' w' B (Ey ρ b) L:=by
 obtain⟨e1,e2,e3,e4,e5,e6,e7⟩:=IP ρ b
 obtain⟨us,r1,r2,r3,r4⟩:=h.Dj
 have hr:AU σ' w' (Ey ρ b).xs us:=by
  unfold Ey
  split
  ·rename_i hrow;exact r1.bare hfz hmp ((KC _).2 (h.Gu hrow))
  ·rename_i hrow;exact nO r1 hfz hmp (hn (by simpa using hrow))
 refine⟨by rw [e7];exact h.tot,⟨us,hr,r2,r3,by rw [e4,e7];exact ZT r4 hb⟩,by rw [e3];exact h.EK,by rw [e5];exact h.Au,?_,?_⟩
 ·intro x hx
  unfold Ey at hx
  split at hx
  ·exact h.oks x hx
  ·simp only [pY,List.mem_map] at hx
   obtain⟨y,hy,rfl⟩:=hx
   rw [Z6P]
   exact h.oks y hy
 ·intro hrow x hx
  rw [e2] at hrow
  unfold Ey at hx
  rw [if_pos hrow] at hx
  exact h.Gu hrow x hx
section
variable {B:Nat} {w0:Start} {σ:Sg} {H:Heap} {w:World} {ids:List Nat}
theorem Z5M (H:Heap) (ids:List Nat) (j:Nat):(G8 H ids)[j]? = (ids[j]?).map fun id=>Ey (ids.idxOf ·) ((H[id]?).getD OC):=by
 simp [G8]
theorem Z5m {l:List Nat} (h:l.Nodup) {i j x:Nat} (hi:l[i]? = some x) (hj:l[j]? = some x):i=j:=by
 obtain⟨h1,e1⟩:=List.getElem?_eq_some_iff.1 hi
 obtain⟨h2,e2⟩:=List.getElem?_eq_some_iff.1 hj
 exact(List.getElem_inj h).1 (e1.trans e2.symm)
theorem SC {xs:List V} {vs:List Value} (hr:AU σ w xs vs) (hm:∀id∈D6 xs,id∈ids):AU (σ.ren ids) w (Fg (ids.idxOf ·) xs) vs:=
 nO hr (fun b c hh=>⟨hh,rfl⟩) (EH.refl _) fun id hid=>tK (hm id hid)
theorem dR (h:Inv B w0 σ H w) (hs:eG ids H) (w1:Start) (hbelow:Below B w1.w w) (hold:∀b c,σ.fz b c->b<B->w1.fz b c)
  (hk:∀b,w1.keep b->b<w.heap.size/\w.heap[b]? = w1.w.heap[b]? /\ (∀id∈ids,∀L,σ.box id=some L->L.v.ownBlock≠some b)/\∀c,σ.fz b c->w1.fz b c):Inv B w1 (σ.ren ids) (G8 H ids) w:=by
 have hbox:∀{j:Nat} {L:Loc},(σ.ren ids).box j=some L->∃id,ids[j]? = some id/\σ.box id=some L:=by
  intro j L hL
  simp only [Sg.ren] at hL
  cases hj:ids[j]? with
  | none=>simp [hj] at hL
  | some id=>simp_all
 have hget:∀{j:Nat} {b' : Box},(G8 H ids)[j]? = some b' -> ∃id b,ids[j]? = some id/\H[id]? = some b/\b.live=true/\(b.row=false->∀r∈D6 b.xs,r∈ids)/\b' = Ey (ids.idxOf ·) b:=by
  intro j b' hb
  rw [Z5M] at hb
  cases hj:ids[j]? with
  | none=>simp [hj] at hb
  | some id=>
   obtain⟨b,k1,k2,k3⟩:=hs.at_ id (List.mem_of_getElem? hj)
   simp_all
 refine⟨hbelow,h.size,?_,?_,?_,h.cells,?_,?_,hold,fun b hb=>?_⟩
 ·intro j L hL
  obtain⟨id,h1,h2⟩:=hbox hL
  obtain⟨b,k1,k2,k3⟩:=hs.at_ id (List.mem_of_getElem? h1)
  refine⟨Ey (ids.idxOf ·) b,by rw [Z5M,h1];simp [k1],.inl ?_⟩
  rw [(IP _ b).1];exact k2
 ·intro j b' hb hl
  obtain⟨id,b,h1,h2,h3,h4,rfl⟩:=hget hb
  obtain⟨L,hL,hok⟩:=h.boxes id b h2 h3
  refine⟨L,by simp [Sg.ren,h1,hL],hok.ren _ (fun b c hh=>⟨hh,rfl⟩) (EH.refl _) (fun hr r hh=>tK (h4 hr r hh)) (fun _ _=>rfl)⟩
 ·intro j j' b1 b2 L1 L2 g h1 h2 l1 l2 s1 s2 g1 g2
  obtain⟨i1,e1,t1⟩:=hbox s1
  obtain⟨i2,e2,t2⟩:=hbox s2
  obtain⟨i1',c1,f1,p1,p2,_⟩:=hget h1
  obtain⟨i2',c2,f2,q1,q2,_⟩:=hget h2
  rw [e1] at f1;cases f1
  rw [e2] at f2;cases f2
  have:=h.apart i1 i2 c1 c2 L1 L2 g p1 q1 p2 q2 t1 t2 g1 g2
  subst this
  exact Z5m hs.nodup e1 e2
 ·intro b c hc j b' L hb hl hL hg
  obtain⟨id,hid,hL'⟩:=hbox hL
  obtain⟨id',b0,f1,p1,p2,_,rfl⟩:=hget hb
  rw [hid] at f1;cases f1
  rw [(IP _ b0).2.2.2.2.2.1]
  exact h.floor b c hc id b0 L p1 p2 hL' hg
 ·intro j b' hb hl
  obtain⟨id,b0,f1,p1,p2,_,rfl⟩:=hget hb
  obtain⟨_,_,_,_,_,e6,e7⟩:=IP (ids.idxOf ·) b0
  rw [e6,e7]
  exact h.low id b0 p1 p2
 ·obtain⟨k1,k2,k3,k4⟩:=hk b hb
  refine⟨k1,k2,fun j L hL hg=>?_,k4⟩
  grind
def Gt (ids:List Nat) (n i:Nat):Option Nat:=if i<n then (if i∈ids then some (ids.idxOf i) else none) else some (ids.length+(i - n))
theorem Zlc:∀{ids:List Nat} {H bs:Heap} (i:Nat),ids.Nodup->(∀id∈ids,id<H.length)->ids.length<=bs.length ->
  (Ja H ids bs)[i]? = match Gt ids H.length i with|some j=>bs[j]? | none=>H[i]?:=by
 intro ids
 induction ids with
 | nil=>
  intro H bs i _ _ _
  unfold Gt
  simp only [Ja,List.getElem?_append,List.not_mem_nil,if_false,List.length_nil,Nat.zero_add]
  split<;>rfl
 | cons id ids ih=>
  intro H bs i hn hl hb
  cases bs with
  | nil=>simp at hb
  | cons b bs=>
   rw [List.nodup_cons] at hn
   rw [Ja,ih i hn.2 (fun j hj=>by simp_all) (by simpa using hb)]
   have hid:=hl id (by simp)
   unfold Gt
   simp only [List.length_set,List.mem_cons,List.length_cons]
   grind
theorem ZdO {H3:Heap} (i:Nat) (hn:ids.Nodup) (hl:∀id∈ids,id<H.length) (hb:ids.length<=H3.length) :
  (LY H ids H3)[i]? = match Gt ids H.length i with|some j=>(H3[j]?).map (Ey (Iq ids H.length))|none=>H[i]?:=by
 unfold LY
 rw [Zlc i hn hl (by simpa using hb)]
 split<;>simp
theorem Zna {n i i' j:Nat} (hn:ids.Nodup) (h1:Gt ids n i=some j) (h2:Gt ids n i' = some j):i=i' :=by
 unfold Gt at h1 h2
 have key:∀{x:Nat},x∈ids->ids.idxOf x<ids.length:=fun h=>List.idxOf_lt_length_of_mem h
 split at h1<;>split at h2
 ·split at h1<;>split at h2
  ·rename_i m1 m2
   simp only [Option.some.injEq] at h1 h2
   have e1:=Z6s m1
   grind
  ·cases h2
  ·cases h1
  ·cases h1
 ·grind
 ·grind
 grind
theorem ZkS {n:Nat} (hn:ids.Nodup) (hl:∀id∈ids,id<n) (j:Nat):Gt ids n (Iq ids n j)=some j:=by
 unfold Iq Gt
 grind
def Sg.back (σ σ1:Sg) (ids:List Nat) (n:Nat):Sg:=⟨fun i=>match Gt ids n i with|some j=>σ1.box j|none=>σ.box i,σ1.fz⟩
theorem Z6e {σ1:Sg} {n:Nat} (hn:ids.Nodup) (hl:∀id∈ids,id<n) (j:Nat):(σ.back σ1 ids n).box (Iq ids n j)=σ1.box j:=by
 simp only [Sg.back,ZkS hn hl]
def outer (σ:Sg) (H:Heap) (ids:List Nat) (w0:Start) (b:Nat):Prop:=w0.keep b\/∃id L bx,id∉ids/\H[id]? = some bx/\bx.live=true/\σ.box id=some L/\L.v.ownBlock=some b
theorem Zmc {σ1:Sg} {H3:Heap} {w' : World} (h:Inv B w0 σ H w) (hs:eG ids H) (h1:Inv B ⟨w,σ.fz,outer σ H ids w0⟩ σ1 H3 w') (hE:Ext (σ.ren ids) w σ1 w') (hlen:ids.length<=H3.length) :
  Inv B w0 (σ.back σ1 ids H.length) (LY H ids H3) w' /\ Ext σ w (σ.back σ1 ids H.length) w' :=by
 have hlt:∀id∈ids,id<H.length:=fun id hid=>by
  obtain⟨b,k1,_⟩:=hs.at_ id hid
  grind
 have hfz:∀b c,σ.fz b c->σ1.fz b c/\w'.cell? ⟨b,c,none⟩=w.cell? ⟨b,c,none⟩:=hE.fz
 have e:Ext σ w (σ.back σ1 ids H.length) w' :=by
  refine⟨fun i L hL=>?_,hfz,hE.mp⟩
  have hi:=h.dC hL
  simp only [Sg.back]
  by_cases hm:i∈ids
  ·have ht:Gt ids H.length i=some (ids.idxOf i):=by simp [Gt,hi,hm]
   simp only [ht]
   exact hE.box _ L (by rw [tK hm];exact hL)
  ·have ht:Gt ids H.length i=none:=by simp [Gt,hi,hm]
   simp_all
 have hget:∀i,(LY H ids H3)[i]? = match Gt ids H.length i with|some j=>(H3[j]?).map (Ey (Iq ids H.length))|none=>H[i]?:=fun i=>ZdO i hs.nodup hlt hlen
 have hout:∀{i:Nat} {bx:Box} {L:Loc} {g:Nat},Gt ids H.length i=none->H[i]? = some bx->bx.live=true->σ.box i=some L->L.v.ownBlock=some g->outer σ H ids w0 g:=by
  intro i bx L g ht hb hl hL hg
  refine .inr ⟨i,L,bx,?_,hb,hl,hL,hg⟩
  intro hm
  simp [Gt,hlt i hm,hm] at ht
 have hcase:∀{i:Nat} {b' : Box},(LY H ids H3)[i]? = some b' -> (∃j b,Gt ids H.length i=some j/\H3[j]? = some b/\b' = Ey (Iq ids H.length) b)\/(Gt ids H.length i=none/\H[i]? = some b'):=by
  intro i b' hb
  rw [hget] at hb
  cases ht:Gt ids H.length i with
  | none=>rw [ht] at hb;exact .inr ⟨rfl,hb⟩
  | some j=>
   rw [ht] at hb
   simp only [Option.map_eq_some_iff] at hb
   obtain⟨b,h2,h3⟩:=hb
   exact .inl ⟨j,b,rfl,h2,h3.symm⟩
 refine⟨⟨h.below.trans h1.below,h1.size,?_,?_,?_,h1.cells,?_,?_,fun b c hc hlt' =>h.old b c (h1.old b c hc hlt') hlt',fun b hb=>?_⟩,e⟩
 ·intro i L hL
  simp only [Sg.back] at hL
  rw [hget]
  cases ht:Gt ids H.length i with
  | none=>rw [ht] at hL;exact h.dom i L hL
  | some j=>
   rw [ht] at hL
   obtain⟨b,k1,k2⟩:=h1.dom j L hL
   exact⟨Ey (Iq ids H.length) b,by simp [k1],by rw [(IP _ b).1,(IP _ b).2.1];exact k2⟩
 ·intro i b' hb hl
  rcases hcase hb with ⟨j,b,ht,hj,rfl⟩|⟨ht,hi⟩
  ·rw [(IP _ b).1] at hl
   obtain⟨L,hL,hok⟩:=h1.boxes j b hj hl
   refine⟨L,by simp only [Sg.back,ht];exact hL,hok.ren _ (fun b c hh=>⟨hh,rfl⟩) (EH.refl _) (fun _ r _=>Z6e hs.nodup hlt r) (fun _ _=>rfl)⟩
  ·obtain⟨L,hL,hok⟩:=h.boxes i b' hi hl
   obtain⟨us,r1,r2,r3,r4⟩:=hok.Dj
   refine⟨L,by simp only [Sg.back,ht];exact hL,hok.tot,⟨us,r1.ext e,r2,r3,ZT r4 fun g hg=>?_⟩,hok.EK,hok.Au,hok.oks,hok.Gu⟩
   exact(h1.kept g (hout ht hi hl hL hg)).2.1
 ·intro i i' b1 b2 L1 L2 g p1 p2 l1 l2 s1 s2 g1 g2
  simp only [Sg.back] at s1 s2
  rcases hcase p1 with ⟨j,c1,t1,q1,rfl⟩|⟨t1,q1⟩<;>rcases hcase p2 with ⟨j',c2,t2,q2,rfl⟩|⟨t2,q2⟩
  ·rw [t1] at s1;rw [t2] at s2
   rw [(IP _ _).1] at l1 l2
   have:=h1.apart j j' c1 c2 L1 L2 g q1 q2 l1 l2 s1 s2 g1 g2
   subst this
   exact Zna hs.nodup t1 t2
  ·rw [t1] at s1;rw [t2] at s2
   exact absurd g1 ((h1.kept g (hout t2 q2 l2 s2 g2)).2.2.1 j L1 s1)
  ·rw [t1] at s1;rw [t2] at s2
   exact absurd g2 ((h1.kept g (hout t1 q1 l1 s1 g1)).2.2.1 j' L2 s2)
  ·rw [t1] at s1;rw [t2] at s2
   exact h.apart i i' b1 b2 L1 L2 g q1 q2 l1 l2 s1 s2 g1 g2
 ·intro b c hc i b' L hb hl hL hg
  simp only [Sg.back] at hL hc
  rcases hcase hb with ⟨j,b0,ht,hj,rfl⟩|⟨ht,hi⟩
  ·rw [ht] at hL
   rw [(IP _ b0).1] at hl
   rw [(IP _ b0).2.2.2.2.2.1]
   exact h1.floor b c hc j b0 L hj hl hL hg
  ·rw [ht] at hL
   exact h.floor b c ((h1.kept b (hout ht hi hl hL hg)).2.2.2 c hc) i b' L hi hl hL hg
 ·intro i b' hb hl
  rcases hcase hb with ⟨j,b0,ht,hj,rfl⟩|⟨ht,hi⟩
  ·obtain⟨e1,_,_,_,_,e6,e7⟩:=IP (Iq ids H.length) b0
   rw [e6,e7]
   rw [e1] at hl
   exact h1.low j b0 hj hl
  ·exact h.low i b' hi hl
 ·obtain⟨k1,k2,k3,k4⟩:=h.kept b hb
  obtain⟨m1,m2,m3,m4⟩:=h1.kept b (.inl hb)
  refine⟨m1,m2.trans k2,fun i L hL hg=>?_,fun c hc=>k4 c (m4 c hc)⟩
  simp only [Sg.back] at hL
  grind
end
def Q9 (P:Program) (E:Env) (f:FuncId) (as:List V) (H0:Heap) (r:V) (H1:Heap):Prop:=
 ∀(B:Nat) (w0:Start) (σ:Sg) (w:World) (vs:List Value),Inv B w0 σ H0 w->Dk E σ w->AU σ w as vs ->
  Calls P f vs.toArray w fun e w' =>∃u σ',e = .returned u/\Inv B w0 σ' H1 w' /\ Ext σ w σ' w' /\ AU σ' w' [r] [u]
theorem bU {B:Nat} {w0:Start} {σ:Sg} {H H2:Heap} {w:World} {fa:List (List Fk)} {fb:List Bf} {k:Nat} {args as:List V} {vs:List Value} {ids:List Nat} (h:Inv B w0 σ H w) (hr:AU σ w args vs)
  (hp:pack fa fb k args H=some (ids,as,H2)):eG ids H2/\(∀id∈D6 as,id∈ids)/\H.length<=H2.length/\∃σ',Inv B w0 σ' H2 w/\Ext σ w σ' w/\AU σ' w as vs:=by
 unfold pack at hp
 split at hp
 ·rename_i as' H1 ha
  split at hp
  ·rename_i H2' ids' hh
   simp only [Option.some.injEq,Prod.mk.injEq] at hp
   obtain⟨rfl,rfl,rfl⟩:=hp
   obtain⟨k1,σ1,i1,e1,r1⟩:=ZkP h hr ha
   obtain⟨q1,q2,q3,σ2,i2,e2⟩:=ZkL 1000 i1 hh (by simp) (by simp)
   exact⟨q3,fun id hid=>q2 id (by simp [hid]),Nat.le_trans k1.len q1,σ2,i2,e1.trans e2,r1.ext e2⟩
  ·cases hp
 ·cases hp
theorem ZkQ {P:Program} {E:Env} {B:Nat} {w0:Start} {σ:Sg} {H H' : Heap} {w:World} {f:FuncId} {hs:Qm} {args:List V} {vs:List Value} {x:V} (hh:∀as H0 r H1,hs.run as H0=some (r,H1)->Q9 P E f as H0 r H1)
  (hc:J5 hs args H=some (x,H')) (h:Inv B w0 σ H w) (hg:Dk E σ w) (hr:AU σ w args vs) :
  Calls P f vs.toArray w fun e w' =>∃u σ',e = .returned u/\Inv B w0 σ' H' w' /\ Ext σ w σ' w' /\ AU σ' w' [x] [u]:=by
 unfold J5 at hc
 split at hc
 ·rename_i ids as H2 hp
  split at hc
  ·rename_i r H3 hrun
   split at hc
   ·rename_i hlen
    simp only [Option.some.injEq,Prod.mk.injEq] at hc
    obtain⟨rfl,rfl⟩:=hc
    obtain⟨hs',hm,_,σ1,hI1,hE1,hr1⟩:=bU h hr hp
    have hlt:∀id∈ids,id<H2.length:=fun id hid=>by
     obtain⟨b,k1,_⟩:=hs'.at_ id hid
     grind
    have hsub:Inv B ⟨w,σ1.fz,outer σ1 H2 ids w0⟩ (σ1.ren ids) (G8 H2 ids) w:=by
     refine dR hI1 hs' _ (Below.refl _ _) (fun b c hc _=>hc) (fun b hb=>?_)
     rcases hb with hb|⟨id,L,bx,hid,m1,m2,hL,hgL⟩
     ·obtain⟨k1,k2,k3,k4⟩:=hI1.kept b hb
      grind
     ·obtain⟨L',hL',hok⟩:=hI1.boxes id bx m1 m2
      rw [hL] at hL';cases hL'
      refine⟨(hok.block_lt hgL).2,rfl,fun i hi L' hL' hg' =>?_,fun c hc=>hc⟩
      obtain⟨bx',n1,n2,_⟩:=hs'.at_ i hi
      have:=hI1.apart id i bx bx' L L' b m1 n1 m2 n2 hL hL' hgL hg'
      subst this
      exact hid hi
    have hg1:Dk E (σ1.ren ids) w:=(hg.ext hE1).bare (fun b c hh=>⟨hh,rfl⟩) (EH.refl _)
    refine(hh _ _ _ _ hrun B _ (σ1.ren ids) w vs hsub hg1 (SC hr1 hm)).mono ?_
    rintro e w' ⟨u,σ2,rfl,hI2,hE2,hr2⟩
    obtain⟨hI3,hE3⟩:=Zmc hI1 hs' hI2 hE2 hlen
    exact⟨u,_,rfl,hI3,hE1.trans hE3,Z5d hr2 (fun b c hh=>⟨hh,rfl⟩) (EH.refl _) (fun id _=>Z6e hs'.nodup hlt id)⟩
   ·cases hc
  ·cases hc
 ·cases hc
end Go.Proofs.YtddbklgndkpipaaGreatDoor.Le
